/- The plain statement behind the law FnExactContour: over numbers and lists alone. -/
import Derived.Test.YtgmbbcnfcddamaaPFnExactContourx9
namespace Go.Proofs.Ytgmbbcnfcddamaa.PFnExactContour
open Go.RowKit Go.Proofs.YtgmbbcnfcddamaaW.PrintWords Go.Proofs.YtgmbbcnfcddamaaW.PrintLast
def laws_FnExactContour.Plain : Prop := ∀ (a0_0 : Int) (a0_1 : Int) (l0_2 : List Int) (a1 : Int), ((Lit.int .i64 a0_0).wf = true) → ((Lit.int .i64 a0_1).wf = true) → (l0_2.length ≤ maxLen ∧ ∀ y22 ∈ l0_2, (Lit.int .i64 y22).wf = true) → ((Lit.int .i64 a1).wf = true) → ∃ k, laws_FnExactContour.f k a0_0 a0_1 l0_2 a1 = some true
end Go.Proofs.Ytgmbbcnfcddamaa.PFnExactContour
