/- The plain statement behind the law FnExactSketchMove: over numbers and lists alone. -/
import Derived.Test.YtnbkdfnlggmopaaPFnExactSketchMovex14
namespace Go.Proofs.Ytnbkdfnlggmopaa.PFnExactSketchMove
open Go.RowKit Go.Proofs.YtnbkdfnlggmopaaW.PrintWords Go.Proofs.YtnbkdfnlggmopaaW.PrintLast
def laws_FnExactSketchMove.Plain : Prop := ∀ (a0_0 : Int) (l0_1 : List S85) (a1 : Int) (a2_0 : Int) (a2_1 : Int), ((Lit.int .i64 a0_0).wf = true) → (l0_1.length ≤ maxLen ∧ ∀ y37 ∈ l0_1, ((Lit.int .i64 y37.f0).wf = true) ∧ ((Lit.int .i64 y37.f1).wf = true) ∧ ((Lit.int .i64 y37.f2).wf = true) ∧ ((Lit.int .i64 y37.f3).wf = true)) → ((Lit.int .i64 a1).wf = true) → ((Lit.int .i64 a2_0).wf = true) → ((Lit.int .i64 a2_1).wf = true) → ∃ k, laws_FnExactSketchMove.f k a0_0 l0_1 a1 a2_0 a2_1 = some true
end Go.Proofs.Ytnbkdfnlggmopaa.PFnExactSketchMove
