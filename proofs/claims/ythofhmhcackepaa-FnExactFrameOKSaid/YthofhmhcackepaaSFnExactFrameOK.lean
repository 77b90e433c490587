/- The plain statement behind the law FnExactFrameOK: over numbers and lists alone. -/
import Derived.Test.YthofhmhcackepaaPFnExactFrameOKx5
namespace Go.Proofs.Ythofhmhcackepaa.PFnExactFrameOK
open Go.RowKit Go.Proofs.YthofhmhcackepaaW.PrintWords Go.Proofs.YthofhmhcackepaaW.PrintLast
def laws_FnExactFrameOK.Plain : Prop := ∀ (a0_0 : Int) (l0_1 : List S119) (l0_2 : List Int), ((Lit.int .i64 a0_0).wf = true) → (l0_1.length ≤ maxLen ∧ ∀ y32 ∈ l0_1, ((Lit.int .i64 y32.f0).wf = true) ∧ ((Lit.int .i64 y32.f1).wf = true) ∧ ((Lit.int .i64 y32.f2).wf = true)) → (l0_2.length ≤ maxLen ∧ ∀ y33 ∈ l0_2, (Lit.int .i64 y33).wf = true) → ∃ k, laws_FnExactFrameOK.f k a0_0 l0_1 l0_2 = some true
end Go.Proofs.Ythofhmhcackepaa.PFnExactFrameOK
