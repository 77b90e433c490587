/- The plain statement behind the law FnExactFileSum: over numbers and lists alone. -/
import Derived.Test.YtbfjpolihoaafaaPFnExactFileSumx1
namespace Go.Proofs.Ytbfjpolihoaafaa.PFnExactFileSum
open Go.RowKit Go.Proofs.YtbfjpolihoaafaaW.PrintWords Go.Proofs.YtbfjpolihoaafaaW.PrintLast
def laws_FnExactFileSum.Plain : Prop := ∀ (l0 : List Int), (l0.length ≤ maxLen ∧ ∀ y34 ∈ l0, (Lit.int .u8 y34).wf = true) → ∃ k, laws_FnExactFileSum.f k l0 = some true
end Go.Proofs.Ytbfjpolihoaafaa.PFnExactFileSum
