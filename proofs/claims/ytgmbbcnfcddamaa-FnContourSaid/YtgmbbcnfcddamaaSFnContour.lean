/- The plain statement behind the law FnContour: over numbers and lists alone. -/
import Derived.Test.YtgmbbcnfcddamaaPFnContourx11
namespace Go.Proofs.Ytgmbbcnfcddamaa.PFnContour
open Go.RowKit Go.Proofs.YtgmbbcnfcddamaaW.PrintWords Go.Proofs.YtgmbbcnfcddamaaW.PrintLast
def laws_FnContour.Plain : Prop := ∀ (l0 : List Int) (l1 : List Int), (l0.length ≤ maxLen ∧ ∀ y38 ∈ l0, (Lit.int .u8 y38).wf = true) → (l1.length ≤ maxLen ∧ ∀ y38 ∈ l1, (Lit.int .u8 y38).wf = true) → ∃ k, laws_FnContour.f k l0 l1 = some true
end Go.Proofs.Ytgmbbcnfcddamaa.PFnContour
