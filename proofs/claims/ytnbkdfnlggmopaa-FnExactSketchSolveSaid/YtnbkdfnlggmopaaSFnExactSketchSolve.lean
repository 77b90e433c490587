/- The plain statement behind the law FnExactSketchSolve: over numbers and lists alone. -/
import Derived.Test.YtnbkdfnlggmopaaPFnExactSketchSolvex13
namespace Go.Proofs.Ytnbkdfnlggmopaa.PFnExactSketchSolve
open Go.RowKit Go.Proofs.YtnbkdfnlggmopaaW.PrintWords Go.Proofs.YtnbkdfnlggmopaaW.PrintLast
def laws_FnExactSketchSolve.Plain : Prop := ∀ (a0_0 : Int) (l0_1 : List S85), ((Lit.int .i64 a0_0).wf = true) → (l0_1.length ≤ maxLen ∧ ∀ y37 ∈ l0_1, ((Lit.int .i64 y37.f0).wf = true) ∧ ((Lit.int .i64 y37.f1).wf = true) ∧ ((Lit.int .i64 y37.f2).wf = true) ∧ ((Lit.int .i64 y37.f3).wf = true)) → ∃ k, laws_FnExactSketchSolve.f k a0_0 l0_1 = some true
end Go.Proofs.Ytnbkdfnlggmopaa.PFnExactSketchSolve
