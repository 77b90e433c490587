/- FnExactJudge over numbers alone: the program's Judge and the reference's answer alike at every four numbers. -/
import Derived.Test.YtbfjpolihoaafaaPFnExactJudgex1
import Derived.Test.YtbfjpolihoaafaaLib
namespace Go.Proofs.Ytbfjpolihoaafaa.Pure
open Go.RowKit Go.Proofs.Ytbfjpolihoaafaa.PFnExactJudge Go.Proofs.YtbfjpolihoaafaaW.PrintWords Go.Proofs.YtbfjpolihoaafaaW.PrintLast Go.Proofs.Ytbfjpolihoaafaa.Lib
set_option linter.unusedVariables false
set_option linter.unusedSimpArgs false

def judgeM (v l h d : Int) : Int × Int :=
  if (-100000 ≤ v ∧ v ≤ 100000) ∧ (-100000 ≤ l ∧ l ≤ 100000) ∧ (-100000 ≤ h ∧ h ≤ 100000) ∧ (-100000 ≤ d ∧ d ≤ 100000) ∧ l ≤ h ∧ 0 ≤ d then
    (if l ≤ v - d ∧ v + d ≤ h then (1, 0) else if v + d < l ∨ h < v - d then (2, 0) else (3, 0))
  else (0, 1)
theorem impl_judge (v l h d : Int) : impl_Judge.f v l h d = some (judgeM v l h d) := by
  have e : ∀ x, impl_Judge1 x = false ↔ ¬ (-100000 ≤ x ∧ x ≤ 100000) := fun x => by unfold impl_Judge1; simp
  unfold impl_Judge.f judgeM
  simp only [e]
  grind (splits := 40)
theorem spec_judge (v l h d : Int) : spec_Judge.f 9 v l h d = some (judgeM v l h d) := by
  have w1 : wrap64 1 = 1 := wr (by decide) (by decide)
  have w2 : wrap64 2 = 2 := wr (by decide) (by decide)
  have w3 : wrap64 3 = 3 := wr (by decide) (by decide)
  have w4 : wrap64 4 = 4 := wr (by decide) (by decide)
  by_cases hb : (-100000 ≤ v ∧ v ≤ 100000) ∧ (-100000 ≤ l ∧ l ≤ 100000) ∧ (-100000 ≤ h ∧ h ≤ 100000) ∧ (-100000 ≤ d ∧ d ≤ 100000)
  · have a1 : wrap64 (v - d) = v - d := wr (by omega) (by omega)
    have a2 : wrap64 (v + d) = v + d := wr (by omega) (by omega)
    simp [spec_Judge.f, spec_Judge.l0, spec_Judge.j1, spec_Judge.j2, judgeM, rd, w1, w2, w3, w4, a1, a2]
    grind (splits := 40)
  · have hM : judgeM v l h d = (0, 1) := by unfold judgeM; rw [if_neg (by omega)]
    rw [hM]
    simp [spec_Judge.f, spec_Judge.l0, spec_Judge.j1, spec_Judge.j2, rd, w1, w2, w3, w4]
    grind (splits := 40)

theorem FnExactJudge : laws_FnExactJudge.Pure := by
  intro v l h d _ _ _ _
  refine ⟨9, ?_⟩
  unfold laws_FnExactJudge.f
  rw [spec_judge, impl_judge]
  simp
end Go.Proofs.Ytbfjpolihoaafaa.Pure
