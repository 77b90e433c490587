/- The plain statement behind the law FnProbe: over numbers and lists alone. -/
import Derived.Test.YthcpdgiinmocaaaPFnProbex6
namespace Go.Proofs.Ythcpdgiinmocaaa.PFnProbe
open Go.RowKit Go.Proofs.YthcpdgiinmocaaaW.PrintWords Go.Proofs.YthcpdgiinmocaaaW.PrintLast
def laws_FnProbe.Plain : Prop := ∀ (l0 : List Int) (l1 : List Int), (l0.length ≤ maxLen ∧ ∀ y22 ∈ l0, (Lit.int .u8 y22).wf = true) → (l1.length ≤ maxLen ∧ ∀ y22 ∈ l1, (Lit.int .u8 y22).wf = true) → ∃ k, laws_FnProbe.f k l0 l1 = some true
end Go.Proofs.Ythcpdgiinmocaaa.PFnProbe
