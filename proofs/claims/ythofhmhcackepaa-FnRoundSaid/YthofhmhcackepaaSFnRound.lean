/- The plain statement behind the law FnRound: over numbers and lists alone. -/
import Derived.Test.YthofhmhcackepaaPFnRoundx3
namespace Go.Proofs.Ythofhmhcackepaa.PFnRound
open Go.RowKit Go.Proofs.YthofhmhcackepaaW.PrintWords Go.Proofs.YthofhmhcackepaaW.PrintLast
def laws_FnRound.Plain : Prop := ∀ (l0 : List Int), (l0.length ≤ maxLen ∧ ∀ y22 ∈ l0, (Lit.int .u8 y22).wf = true) → ∃ k, laws_FnRound.f k l0 = some true
end Go.Proofs.Ythofhmhcackepaa.PFnRound
