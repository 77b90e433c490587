/- The plain statement behind the law FnExactSpectrum: over numbers and lists alone. -/
import Derived.Test.YtlmlhkmkabklmaaPFnExactSpectrumx4
namespace Go.Proofs.Ytlmlhkmkabklmaa.PFnExactSpectrum
open Go.RowKit Go.Proofs.YtlmlhkmkabklmaaW.PrintWords Go.Proofs.YtlmlhkmkabklmaaW.PrintLast
def laws_FnExactSpectrum.Plain : Prop := ∀ (l0 : List Nat), (l0.length ≤ maxLen ∧ ∀ y22 ∈ l0, (Lit.float .f64 y22).wf = true) → ∃ k, laws_FnExactSpectrum.f k l0 = some true
end Go.Proofs.Ytlmlhkmkabklmaa.PFnExactSpectrum
