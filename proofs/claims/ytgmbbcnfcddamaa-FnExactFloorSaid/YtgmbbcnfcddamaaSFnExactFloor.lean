/- The plain statement behind the law FnExactFloor: over numbers and lists alone. -/
import Derived.Test.YtgmbbcnfcddamaaPFnExactFloorx8
namespace Go.Proofs.Ytgmbbcnfcddamaa.PFnExactFloor
open Go.RowKit Go.Proofs.YtgmbbcnfcddamaaW.PrintWords Go.Proofs.YtgmbbcnfcddamaaW.PrintLast
def laws_FnExactFloor.Plain : Prop := ∀ (a0_0 : Int) (a0_1 : Int) (l0_2 : List Int) (a1 : Int), ((Lit.int .i64 a0_0).wf = true) → ((Lit.int .i64 a0_1).wf = true) → (l0_2.length ≤ maxLen ∧ ∀ y22 ∈ l0_2, (Lit.int .i64 y22).wf = true) → ((Lit.int .i64 a1).wf = true) → ∃ k, laws_FnExactFloor.f k a0_0 a0_1 l0_2 a1 = some true
end Go.Proofs.Ytgmbbcnfcddamaa.PFnExactFloor
