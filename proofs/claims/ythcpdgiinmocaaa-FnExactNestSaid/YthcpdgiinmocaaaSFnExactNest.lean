/- The plain statement behind the law FnExactNest: over numbers and lists alone. -/
import Derived.Test.YthcpdgiinmocaaaPFnExactNestx9
namespace Go.Proofs.Ythcpdgiinmocaaa.PFnExactNest
open Go.RowKit Go.Proofs.YthcpdgiinmocaaaW.PrintWords Go.Proofs.YthcpdgiinmocaaaW.PrintLast
def laws_FnExactNest.Plain : Prop := ∀ (a0 : Int) (l1 : List S108), ((Lit.int .i64 a0).wf = true) → (l1.length ≤ maxLen ∧ ∀ y60 ∈ l1, ((Lit.int .i64 y60.f0).wf = true) ∧ ((Lit.int .i64 y60.f1).wf = true)) → ∃ k, laws_FnExactNest.f k a0 l1 = some true
end Go.Proofs.Ythcpdgiinmocaaa.PFnExactNest
