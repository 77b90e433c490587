/- The plain statement behind the law FnExactProbing: over numbers and lists alone. -/
import Derived.Test.YthcpdgiinmocaaaPFnExactProbingx6
namespace Go.Proofs.Ythcpdgiinmocaaa.PFnExactProbing
open Go.RowKit Go.Proofs.YthcpdgiinmocaaaW.PrintWords Go.Proofs.YthcpdgiinmocaaaW.PrintLast
def laws_FnExactProbing.Plain : Prop := ∀ (l0 : List S38) (a1_0 : Int) (a1_1 : Int), (l0.length ≤ maxLen ∧ ∀ y36 ∈ l0, ((Lit.int .i64 y36.f0).wf = true) ∧ ((Lit.int .i64 y36.f1).wf = true)) → ((Lit.int .i64 a1_0).wf = true) → ((Lit.int .i64 a1_1).wf = true) → ∃ k, laws_FnExactProbing.f k l0 a1_0 a1_1 = some true
end Go.Proofs.Ythcpdgiinmocaaa.PFnExactProbing
