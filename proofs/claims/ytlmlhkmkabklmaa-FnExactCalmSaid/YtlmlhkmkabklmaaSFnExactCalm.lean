/- The plain statement behind the law FnExactCalm: over numbers and lists alone. -/
import Derived.Test.YtlmlhkmkabklmaaPFnExactCalmx4
namespace Go.Proofs.Ytlmlhkmkabklmaa.PFnExactCalm
open Go.RowKit Go.Proofs.YtlmlhkmkabklmaaW.PrintWords Go.Proofs.YtlmlhkmkabklmaaW.PrintLast
def laws_FnExactCalm.Plain : Prop := ∀ (l0 : List Nat) (a1 : Nat), (l0.length ≤ maxLen ∧ ∀ y22 ∈ l0, (Lit.float .f64 y22).wf = true) → ((Lit.float .f32 a1).wf = true) → ∃ k, laws_FnExactCalm.f k l0 a1 = some true
end Go.Proofs.Ytlmlhkmkabklmaa.PFnExactCalm
