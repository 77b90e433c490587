/- The plain statement behind the law FnExactRest: over numbers and lists alone. -/
import Derived.Test.YtbfjpolihoaafaaPFnExactRestx4
namespace Go.Proofs.Ytbfjpolihoaafaa.PFnExactRest
open Go.RowKit Go.Proofs.YtbfjpolihoaafaaW.PrintWords Go.Proofs.YtbfjpolihoaafaaW.PrintLast
def laws_FnExactRest.Plain : Prop := ∀ (a0_0 : Int) (a0_1 : Int) (l0_2 : List Int) (a1_0 : Int) (a1_1 : Int) (l1_2 : List Int), ((Lit.int .i64 a0_0).wf = true) → ((Lit.int .i64 a0_1).wf = true) → (l0_2.length ≤ maxLen ∧ ∀ y48 ∈ l0_2, (Lit.int .i64 y48).wf = true) → ((Lit.int .i64 a1_0).wf = true) → ((Lit.int .i64 a1_1).wf = true) → (l1_2.length ≤ maxLen ∧ ∀ y48 ∈ l1_2, (Lit.int .i64 y48).wf = true) → ∃ k, laws_FnExactRest.f k a0_0 a0_1 l0_2 a1_0 a1_1 l1_2 = some true
end Go.Proofs.Ytbfjpolihoaafaa.PFnExactRest
