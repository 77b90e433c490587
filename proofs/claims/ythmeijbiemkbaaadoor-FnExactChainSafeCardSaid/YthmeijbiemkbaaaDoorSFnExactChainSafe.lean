/- The plain statement behind the law FnExactChainSafe: over numbers and lists alone. -/
import Derived.Test.YthmeijbiemkbaaaDoorPFnExactChainSafex9
namespace Go.Proofs.YthmeijbiemkbaaaDoor.PFnExactChainSafe
open Go.RowKit Go.Proofs.YthmeijbiemkbaaaDoorW.PrintWords Go.Proofs.YthmeijbiemkbaaaDoorW.PrintLast
def laws_FnExactChainSafe.Plain : Prop := ∀ (l0 : List S55) (a1 : Int) (a2 : Int), (l0.length ≤ maxLen ∧ ∀ y22 ∈ l0, (y22.f0.size ≤ maxLen) ∧ ((Lit.int .i64 y22.f1).wf = true) ∧ ((Lit.int .i64 y22.f2).wf = true) ∧ ((Lit.int .i64 y22.f3).wf = true) ∧ ((Lit.int .i64 y22.f4).wf = true)) → ((Lit.int .i64 a1).wf = true) → ((Lit.int .i64 a2).wf = true) → ∃ k, laws_FnExactChainSafe.f k l0 a1 a2 = some true
end Go.Proofs.YthmeijbiemkbaaaDoor.PFnExactChainSafe
