/- The plain statement behind the law FnExactFieldOK: over numbers and lists alone. -/
import Derived.Test.YtbfjpolihoaafaaPFnExactFieldOKx3
namespace Go.Proofs.Ytbfjpolihoaafaa.PFnExactFieldOK
open Go.RowKit Go.Proofs.YtbfjpolihoaafaaW.PrintWords Go.Proofs.YtbfjpolihoaafaaW.PrintLast
def laws_FnExactFieldOK.Plain : Prop := ∀ (a0_0 : Int) (a0_1 : Int) (l0_2 : List Int), ((Lit.int .i64 a0_0).wf = true) → ((Lit.int .i64 a0_1).wf = true) → (l0_2.length ≤ maxLen ∧ ∀ y48 ∈ l0_2, (Lit.int .i64 y48).wf = true) → ∃ k, laws_FnExactFieldOK.f k a0_0 a0_1 l0_2 = some true
end Go.Proofs.Ytbfjpolihoaafaa.PFnExactFieldOK
