/- FnExactTurn over numbers alone: the program's Turn and the reference's answer alike at every three points. -/
import Derived.Test.YtbfjpolihoaafaaSFnExactTurn
import Derived.Test.YtbfjpolihoaafaaLib
namespace Go.Proofs.Ytbfjpolihoaafaa.Pure
open Go.RowKit Go.Proofs.Ytbfjpolihoaafaa.PFnExactTurn Go.Proofs.YtbfjpolihoaafaaW.PrintWords Go.Proofs.YtbfjpolihoaafaaW.PrintLast Go.Proofs.Ytbfjpolihoaafaa.Lib
set_option linter.unusedVariables false
set_option linter.unusedSimpArgs false

def okP (x y : Int) : Bool := decide (-100000 ≤ x ∧ x ≤ 100000 ∧ -100000 ≤ y ∧ y ≤ 100000)
theorem spec_pt (x y : Int) : spec_l03Point.f x y = some (okP x y) := by unfold spec_l03Point.f okP; grind
theorem impl_pt (x y : Int) : impl_pointOK.f x y = some (okP x y) := by unfold impl_pointOK.f okP; grind
theorem same_sign (n : Int) : impl_sign.f n = spec_l03Sign.f n := rfl
theorem same_side (a b c d e f : Int) : impl_cross3.f a b c d e f = spec_l03Side.f a b c d e f := rfl
theorem sign_some (n : Int) : ∃ s, spec_l03Sign.f n = some s := by
  unfold spec_l03Sign.f
  split
  · exact ⟨_, rfl⟩
  · split <;> exact ⟨_, rfl⟩
theorem pts_three (a b c : S45) : Ev (fun k => spec_l03Points.f k [a, b, c]) (okP a.f0 a.f1 && okP b.f0 b.f1 && okP c.f0 c.f1) := by
  have w1 : wrap64 1 = 1 := wr (by decide) (by decide)
  have w2 : wrap64 2 = 2 := wr (by decide) (by decide)
  have w3 : wrap64 3 = 3 := wr (by decide) (by decide)
  have r0 : rd_T45 [a, b, c] 0 = a := rfl
  have r1 : rd_T45 [a, b, c] 1 = b := rfl
  have r2 : rd_T45 [a, b, c] 2 = c := rfl
  unfold spec_l03Points.f
  refine ev_one (f := fun k => if okP a.f0 a.f1 = true then spec_l03Points.l0 k [a, b, c] 1 else some false) (fun k => by simp [spec_l03Points.l0, spec_pt, r0, w1]) ?_
  by_cases ha : okP a.f0 a.f1 = true
  · simp only [ha, if_true, Bool.true_and]
    refine ev_one (f := fun k => if okP b.f0 b.f1 = true then spec_l03Points.l0 k [a, b, c] 2 else some false) (fun k => by simp [spec_l03Points.l0, spec_pt, r1, w2]) ?_
    by_cases hb : okP b.f0 b.f1 = true
    · simp only [hb, if_true, Bool.true_and]
      refine ev_one (f := fun k => if okP c.f0 c.f1 = true then spec_l03Points.l0 k [a, b, c] 3 else some false) (fun k => by simp [spec_l03Points.l0, spec_pt, r2, w3]) ?_
      by_cases hc : okP c.f0 c.f1 = true
      · simp only [hc, if_true]
        exact ev_some fun k => by simp [spec_l03Points.l0]
      · simp only [if_neg hc]
        simp only [Bool.not_eq_true] at hc
        rw [hc]; exact Ev.now _
    · simp only [if_neg hb]
      simp only [Bool.not_eq_true] at hb
      rw [hb]; exact Ev.now _
  · simp only [if_neg ha]
    simp only [Bool.not_eq_true] at ha
    rw [ha]; exact Ev.now _
theorem FnExactTurn : laws_FnExactTurn.Plain := by
  intro a b c d e f _ _ _ _ _ _
  refine Ev.rounds ?_
  unfold laws_FnExactTurn.f laws_toPoint.f
  simp only [Option.bind_some]
  obtain ⟨s, hs⟩ := sign_some (wrap64 ((wrap64 ((wrap64 (c - a)) * (wrap64 (f - b)))) - (wrap64 ((wrap64 (d - b)) * (wrap64 (e - a))))))
  have hsp : Ev (fun k => spec_Turn.f k a b c d e f) (if (okP a b && okP c d && okP e f) = true then (s, 0) else (0, 1)) := by
    unfold spec_Turn.f
    refine Ev.bind (pts_three ⟨a, b⟩ ⟨c, d⟩ ⟨e, f⟩) ?_
    refine ev_const ?_
    simp only [spec_l03Side.f, Option.bind_some, hs]
    split <;> rfl
  have him : Ev (fun k => impl_Turn.f k a b c d e f) (if (okP a b && okP c d && okP e f) = true then (s, 0) else (0, 1)) := by
    have hj : ∀ v, Ev (fun k => impl_Turn.j0 k v a b c d e f) (if v = true then (0, 1) else (s, 0)) := fun v => ev_some fun k => by
      simp only [impl_Turn.j0, same_side, same_sign, spec_l03Side.f, Option.bind_some, hs]
      split <;> rfl
    unfold impl_Turn.f
    simp only [impl_pt, Option.bind_some]
    by_cases h1 : okP a b = true
    · simp only [if_pos h1]
      by_cases h2 : okP c d = true
      · simp only [if_pos h2]
        have := hj (!okP e f)
        simp only [h1, h2, Bool.true_and]
        cases h3 : okP e f <;> simp only [h3] at this <;> exact this
      · simp only [if_neg h2]
        have h2' : okP c d = false := by simpa using h2
        simpa [h2'] using hj true
    · simp only [if_neg h1]
      have h1' : okP a b = false := by simpa using h1
      simpa [h1'] using hj true
  refine Ev.bind hsp ?_
  refine Ev.bind him ?_
  exact ev_const (by simp)
end Go.Proofs.Ytbfjpolihoaafaa.Pure
