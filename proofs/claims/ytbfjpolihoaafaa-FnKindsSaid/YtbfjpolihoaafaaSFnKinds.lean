/- The plain statement behind the law FnKinds: over numbers and lists alone. -/
import Derived.Test.YtbfjpolihoaafaaPFnKindsx2
namespace Go.Proofs.Ytbfjpolihoaafaa.PFnKinds
open Go.RowKit Go.Proofs.YtbfjpolihoaafaaW.PrintWords Go.Proofs.YtbfjpolihoaafaaW.PrintLast
def laws_FnKinds.Plain : Prop := ∀ (l0 : List Int) (l1 : List Int), (l0.length ≤ maxLen ∧ ∀ y34 ∈ l0, (Lit.int .u8 y34).wf = true) → (l1.length ≤ maxLen ∧ ∀ y34 ∈ l1, (Lit.int .u8 y34).wf = true) → ∃ k, laws_FnKinds.f k l0 l1 = some true
end Go.Proofs.Ytbfjpolihoaafaa.PFnKinds
