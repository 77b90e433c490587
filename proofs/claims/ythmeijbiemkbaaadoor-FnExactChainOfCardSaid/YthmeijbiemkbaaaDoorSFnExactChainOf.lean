/- The plain statement behind the law FnExactChainOf: over numbers and lists alone. -/
import Derived.Test.YthmeijbiemkbaaaDoorPFnExactChainOfx8
namespace Go.Proofs.YthmeijbiemkbaaaDoor.PFnExactChainOf
open Go.RowKit Go.Proofs.YthmeijbiemkbaaaDoorW.PrintWords Go.Proofs.YthmeijbiemkbaaaDoorW.PrintLast
def laws_FnExactChainOf.Plain : Prop := ∀ (l0 : List S55), (l0.length ≤ maxLen ∧ ∀ y22 ∈ l0, (y22.f0.size ≤ maxLen) ∧ ((Lit.int .i64 y22.f1).wf = true) ∧ ((Lit.int .i64 y22.f2).wf = true) ∧ ((Lit.int .i64 y22.f3).wf = true) ∧ ((Lit.int .i64 y22.f4).wf = true)) → ∃ k, laws_FnExactChainOf.f k l0 = some true
end Go.Proofs.YthmeijbiemkbaaaDoor.PFnExactChainOf
