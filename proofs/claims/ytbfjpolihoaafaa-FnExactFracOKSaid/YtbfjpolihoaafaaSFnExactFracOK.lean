/- The plain statement behind the law FnExactFracOK: over numbers and lists alone. -/
import Derived.Test.YtbfjpolihoaafaaPFnExactFracOKx1
namespace Go.Proofs.Ytbfjpolihoaafaa.PFnExactFracOK
open Go.RowKit Go.Proofs.YtbfjpolihoaafaaW.PrintWords Go.Proofs.YtbfjpolihoaafaaW.PrintLast
def laws_FnExactFracOK.Plain : Prop := ∀ (a0_0 : Int) (a0_1 : Int), ((Lit.int .i64 a0_0).wf = true) → ((Lit.int .i64 a0_1).wf = true) → ∃ k, laws_FnExactFracOK.f k a0_0 a0_1 = some true
end Go.Proofs.Ytbfjpolihoaafaa.PFnExactFracOK
