/- The plain statement behind the law FnExactBound: over numbers and lists alone. -/
import Derived.Test.YthmeijbiemkbaaaDoorPFnExactBoundx11
namespace Go.Proofs.YthmeijbiemkbaaaDoor.PFnExactBound
open Go.RowKit Go.Proofs.YthmeijbiemkbaaaDoorW.PrintWords Go.Proofs.YthmeijbiemkbaaaDoorW.PrintLast
def laws_FnExactBound.Plain : Prop := ∀ (a0_0 : Int) (a0_1 : Int) (a0_2 : Int) (l1 : List S64), ((Lit.int .i64 a0_0).wf = true) → ((Lit.int .i64 a0_1).wf = true) → ((Lit.int .i64 a0_2).wf = true) → (l1.length ≤ maxLen ∧ ∀ y35 ∈ l1, (y35.f0.size ≤ maxLen) ∧ ((Lit.int .i64 y35.f1).wf = true) ∧ (y35.f2.length ≤ maxLen ∧ ∀ y62 ∈ y35.f2, ((Lit.int .i64 y62.f0).wf = true) ∧ ((Lit.int .i64 y62.f1).wf = true) ∧ ((Lit.int .i64 y62.f2).wf = true) ∧ ((Lit.int .i64 y62.f3).wf = true))) → ∃ k, laws_FnExactBound.f k a0_0 a0_1 a0_2 l1 = some true
end Go.Proofs.YthmeijbiemkbaaaDoor.PFnExactBound
