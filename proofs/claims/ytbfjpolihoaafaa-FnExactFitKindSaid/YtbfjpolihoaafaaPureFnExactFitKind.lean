/- FnExactFitKind over numbers alone: at every four numbers the program's FitKind and the reference's answer alike. -/
import Derived.Test.YtbfjpolihoaafaaPFnExactFitKindx1
namespace Go.Proofs.Ytbfjpolihoaafaa.Pure
open Go.RowKit Go.Proofs.Ytbfjpolihoaafaa.PFnExactFitKind Go.Proofs.YtbfjpolihoaafaaW.PrintWords Go.Proofs.YtbfjpolihoaafaaW.PrintLast

theorem wr {n : Int} (h0 : -9223372036854775808 ≤ n) (h1 : n ≤ 9223372036854775807) : wrap64 n = n := by
  unfold wrap64
  omega
theorem wr_n (n : Nat) (h : n ≤ 9223372036854775807) : wrap64 (n : Int) = n := wr (by omega) (by omega)
theorem rd_nat (xs : List Int) (i : Nat) : rd xs (i : Int) = xs.getD i 0 := rfl
theorem wf64 {x : Int} (h : (Lit.int .i64 x).wf = true) : -9223372036854775808 ≤ x ∧ x ≤ 9223372036854775807 := by
  simpa [Lit.wf, IntKind.min, IntKind.max, IntKind.signed, IntKind.bits] using h

def fitModel (a0 a1 a2 a3 : Int) : Int × Int × Int × Int :=
  if (0 ≤ a0 ∧ a0 ≤ 100000) ∧ (0 ≤ a1 ∧ a1 ≤ 100000) ∧ (0 ≤ a2 ∧ a2 ≤ 100000) ∧ (0 ≤ a3 ∧ a3 ≤ 100000) ∧ a0 ≤ a1 ∧ a2 ≤ a3 then
    (if 0 ≤ wrap64 (a0 - a3) then (1, wrap64 (a0 - a3), wrap64 (a1 - a2), 0) else if wrap64 (a1 - a2) ≤ 0 then (2, wrap64 (a0 - a3), wrap64 (a1 - a2), 0) else (3, wrap64 (a0 - a3), wrap64 (a1 - a2), 0))
  else (0, 0, 0, 1)
theorem size_f (a : Int) : spec_l07Size.f a = some (decide (0 ≤ a ∧ a ≤ 100000)) := by
  unfold spec_l07Size.f
  by_cases h : 0 ≤ a <;> simp [h]
theorem specFit (a0 a1 a2 a3 : Int) : spec_FitKind.f 8 a0 a1 a2 a3 = some (fitModel a0 a1 a2 a3) := by
  simp only [spec_FitKind.f, size_f, Option.bind_some, decide_eq_true_eq, spec_FitKind.j0, fitModel]
  grind (splits := 40)
theorem implFit (a0 a1 a2 a3 : Int) : impl_FitKind.f 8 a0 a1 a2 a3 = some (fitModel a0 a1 a2 a3) := by
  have w1 : wrap64 1 = 1 := by rw [wr] <;> decide
  have w2 : wrap64 2 = 2 := by rw [wr] <;> decide
  have w3 : wrap64 3 = 3 := by rw [wr] <;> decide
  have w4 : wrap64 4 = 4 := by rw [wr] <;> decide
  simp [impl_FitKind.f, impl_FitKind.l0, impl_FitKind.j1, fitModel, rd, w1, w2, w3, w4]
  grind (splits := 40)
theorem FnExactFitKind : laws_FnExactFitKind.Pure := by
  intro a0 a1 a2 a3 _ _ _ _
  refine ⟨8, ?_⟩
  simp only [laws_FnExactFitKind.f, specFit, implFit, Option.bind_some, if_true]
end Go.Proofs.Ytbfjpolihoaafaa.Pure
