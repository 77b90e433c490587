/- The plain statement behind the law FnExactFracRound: over numbers and lists alone. -/
import Derived.Test.YtbfjpolihoaafaaPFnExactFracRoundx2
namespace Go.Proofs.Ytbfjpolihoaafaa.PFnExactFracRound
open Go.RowKit Go.Proofs.YtbfjpolihoaafaaW.PrintWords Go.Proofs.YtbfjpolihoaafaaW.PrintLast
def laws_FnExactFracRound.Plain : Prop := ∀ (a0_0 : Int) (a0_1 : Int) (a1 : Int), ((Lit.int .i64 a0_0).wf = true) → ((Lit.int .i64 a0_1).wf = true) → ((Lit.int .i64 a1).wf = true) → ∃ k, laws_FnExactFracRound.f k a0_0 a0_1 a1 = some true
end Go.Proofs.Ytbfjpolihoaafaa.PFnExactFracRound
