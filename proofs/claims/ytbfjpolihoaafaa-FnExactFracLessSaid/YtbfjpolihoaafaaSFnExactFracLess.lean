/- The plain statement behind the law FnExactFracLess: over numbers and lists alone. -/
import Derived.Test.YtbfjpolihoaafaaPFnExactFracLessx2
namespace Go.Proofs.Ytbfjpolihoaafaa.PFnExactFracLess
open Go.RowKit Go.Proofs.YtbfjpolihoaafaaW.PrintWords Go.Proofs.YtbfjpolihoaafaaW.PrintLast
def laws_FnExactFracLess.Plain : Prop := ∀ (a0_0 : Int) (a0_1 : Int) (a1_0 : Int) (a1_1 : Int), ((Lit.int .i64 a0_0).wf = true) → ((Lit.int .i64 a0_1).wf = true) → ((Lit.int .i64 a1_0).wf = true) → ((Lit.int .i64 a1_1).wf = true) → ∃ k, laws_FnExactFracLess.f k a0_0 a0_1 a1_0 a1_1 = some true
end Go.Proofs.Ytbfjpolihoaafaa.PFnExactFracLess
