/- The plain statement behind the law FnExactZigzag: over numbers and lists alone. -/
import Derived.Test.YtgmbbcnfcddamaaPFnExactZigzagx11
namespace Go.Proofs.Ytgmbbcnfcddamaa.PFnExactZigzag
open Go.RowKit Go.Proofs.YtgmbbcnfcddamaaW.PrintWords Go.Proofs.YtgmbbcnfcddamaaW.PrintLast
def laws_FnExactZigzag.Plain : Prop := ∀ (a0_0 : Int) (a0_1 : Int) (l0_2 : List Int) (a1_0 : Int) (a1_1 : Int) (l1_2 : List Int) (a2 : Int) (a3 : Int), ((Lit.int .i64 a0_0).wf = true) → ((Lit.int .i64 a0_1).wf = true) → (l0_2.length ≤ maxLen ∧ ∀ y22 ∈ l0_2, (Lit.int .i64 y22).wf = true) → ((Lit.int .i64 a1_0).wf = true) → ((Lit.int .i64 a1_1).wf = true) → (l1_2.length ≤ maxLen ∧ ∀ y22 ∈ l1_2, (Lit.int .i64 y22).wf = true) → ((Lit.int .i64 a2).wf = true) → ((Lit.int .i64 a3).wf = true) → ∃ k, laws_FnExactZigzag.f k a0_0 a0_1 l0_2 a1_0 a1_1 l1_2 a2 a3 = some true
end Go.Proofs.Ytgmbbcnfcddamaa.PFnExactZigzag
