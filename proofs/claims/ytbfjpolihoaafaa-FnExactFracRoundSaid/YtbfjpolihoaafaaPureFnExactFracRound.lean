/- FnExactFracRound over numbers alone: the program's FracRound and the reference's answer alike at every fraction and mode. -/
import Derived.Test.YtbfjpolihoaafaaSFnExactFracRound
import Derived.Test.YtbfjpolihoaafaaLib
namespace Go.Proofs.Ytbfjpolihoaafaa.Pure
open Go.RowKit Go.Proofs.Ytbfjpolihoaafaa.PFnExactFracRound Go.Proofs.YtbfjpolihoaafaaW.PrintWords Go.Proofs.YtbfjpolihoaafaaW.PrintLast Go.Proofs.Ytbfjpolihoaafaa.Lib
set_option linter.unusedVariables false
set_option linter.unusedSimpArgs false

def okF (n d : Int) : Bool := decide (1 ≤ d ∧ d ≤ 1000000000 ∧ -1000000000 ≤ n ∧ n ≤ 1000000000 ∧ Nat.gcd n.natAbs d.natAbs = 1)
theorem okF_iff (n d : Int) : okF n d = true ↔ 1 ≤ d ∧ d ≤ 1000000000 ∧ -1000000000 ≤ n ∧ n ≤ 1000000000 ∧ Nat.gcd n.natAbs d.natAbs = 1 := by simp [okF]
theorem gcd_ev : ∀ (m : Nat) (a b : Int), b.natAbs ≤ m → ∃ g, Ev (fun k => spec_l01Gcd.l0 k a b) g ∧ g.natAbs = Nat.gcd a.natAbs b.natAbs := by
  intro m
  induction m with
  | zero =>
    intro a b hb
    obtain rfl : b = 0 := by omega
    exact ⟨a, ev_some fun k => by simp only [spec_l01Gcd.l0, if_true], by simp⟩
  | succ m ih =>
    intro a b hb
    by_cases h : b = 0
    · subst h
      exact ⟨a, ev_some fun k => by simp only [spec_l01Gcd.l0, if_true], by simp⟩
    · have hlt : (Int.tmod a b).natAbs < b.natAbs := by
        rw [Int.natAbs_tmod]; exact Nat.mod_lt _ (by omega)
      obtain ⟨g, hg, he⟩ := ih b (Int.tmod a b) (by omega)
      refine ⟨g, ev_one (fun k => by simp only [spec_l01Gcd.l0]; rw [if_neg h]) hg, ?_⟩
      rw [he, Int.natAbs_tmod, Nat.gcd_comm b.natAbs, ← Nat.gcd_rec, Nat.gcd_comm]
theorem impl_gcd_eq : ∀ (k : Nat) (a b : Int), impl_gcd.l0 k a b = (spec_l01Gcd.l0 k a b).bind fun g => if g < 0 then some (wrap64 (-g)) else some g := by
  intro k
  induction k with
  | zero => intro a b; rfl
  | succ k ih =>
    intro a b
    simp only [impl_gcd.l0, spec_l01Gcd.l0]
    by_cases h : b = 0
    · simp only [if_pos h, Option.bind_some]
    · simp only [if_neg h]; exact ih _ _
theorem abs_of (g : Int) (h : g.natAbs ≤ 1000000000) : (if g < 0 then some (wrap64 (-g)) else some g) = some (g.natAbs : Int) := by
  by_cases h0 : g < 0
  · rw [if_pos h0, wr (by omega) (by omega)]; congr 1; omega
  · rw [if_neg h0]; congr 1; omega
theorem gcd_le (n d : Int) (h1 : 1 ≤ d) (h2 : d ≤ 1000000000) : Nat.gcd n.natAbs d.natAbs ≤ 1000000000 :=
  Nat.le_trans (Nat.gcd_le_right _ (by omega)) (by omega)
theorem spec_ok (n d : Int) : Ev (fun k => spec_FracOK.f k n d) (okF n d) := by
  have bad : ¬ (1 ≤ d ∧ d ≤ 1000000000 ∧ -1000000000 ≤ n ∧ n ≤ 1000000000) → okF n d = false := fun h => by
    simp only [okF, decide_eq_false_iff_not]; intro h'; exact h ⟨h'.1, h'.2.1, h'.2.2.1, h'.2.2.2.1⟩
  have stop : okF n d = false → Ev (fun k => spec_FracOK.j0 k true n d) (okF n d) := fun h => by
    rw [h]; exact ev_some fun k => by simp only [spec_FracOK.j0, if_true]
  unfold spec_FracOK.f
  by_cases h1 : d < 1
  · simp only [if_pos h1]; exact stop (bad (by omega))
  · simp only [if_neg h1]
    by_cases h2 : d > 1000000000
    · simp only [if_pos h2]; exact stop (bad (by omega))
    · simp only [if_neg h2]
      by_cases h3 : n < -1000000000
      · simp only [if_pos h3]; exact stop (bad (by omega))
      · simp only [if_neg h3]
        by_cases h4 : n > 1000000000
        · simp only [h4, decide_true]; exact stop (bad (by omega))
        · simp only [h4, decide_false]
          obtain ⟨g, hg, he⟩ := gcd_ev _ n d (Nat.le_refl _)
          have hgl := gcd_le n d (by omega) (by omega)
          refine ev_one (f := fun k => (spec_l01Gcd.f k n d).bind fun t102 => (spec_l01Abs.f t102).bind fun t103 => some (t103 == 1)) (fun k => by simp only [spec_FracOK.j0]; rfl) ?_
          refine Ev.bind (g := fun k => spec_l01Gcd.f k n d) (a := g) hg ?_
          unfold spec_l01Abs.f
          rw [abs_of g (by omega)]
          refine ev_const ?_
          simp only [Option.bind_some, okF, he]
          congr 1
          rw [Bool.eq_iff_iff]
          simp only [beq_iff_eq, decide_eq_true_eq]
          constructor
          · intro h; exact ⟨by omega, by omega, by omega, by omega, by omega⟩
          · intro h; have := h.2.2.2.2; omega
theorem impl_ok (n d : Int) : Ev (fun k => impl_FracOK.f k n d) (okF n d) := by
  have bad : ¬ (1 ≤ d ∧ d ≤ 1000000000 ∧ -1000000000 ≤ n ∧ n ≤ 1000000000) → okF n d = false := fun h => by
    simp only [okF, decide_eq_false_iff_not]; intro h'; exact h ⟨h'.1, h'.2.1, h'.2.2.1, h'.2.2.2.1⟩
  unfold impl_FracOK.f
  by_cases h1 : d ≥ 1
  · simp only [if_pos h1]
    by_cases h2 : d ≤ 1000000000
    · simp only [if_pos h2]
      by_cases h3 : n ≥ -1000000000
      · simp only [if_pos h3]
        by_cases h4 : n ≤ 1000000000
        · simp only [if_pos h4]
          obtain ⟨g, hg, he⟩ := gcd_ev _ n d (Nat.le_refl _)
          have hgl := gcd_le n d (by omega) (by omega)
          have hi : Ev (fun k => impl_gcd.f k n d) (g.natAbs : Int) := by
            obtain ⟨K, hK⟩ := hg
            refine ⟨K, fun k hk => ?_⟩
            show impl_gcd.l0 k n d = _
            have hk1 : spec_l01Gcd.l0 k n d = some g := hK k hk
            rw [impl_gcd_eq, hk1, Option.bind_some, abs_of g (by omega)]
          refine Ev.bind hi ?_
          refine ev_const ?_
          simp only [okF, he]
          congr 1
          rw [Bool.eq_iff_iff]
          simp only [beq_iff_eq, decide_eq_true_eq]
          constructor
          · intro h; exact ⟨by omega, by omega, by omega, by omega, by omega⟩
          · intro h; have := h.2.2.2.2; omega
        · simp only [if_neg h4]; rw [bad (by omega)]; exact Ev.now _
      · simp only [if_neg h3]; rw [bad (by omega)]; exact Ev.now _
    · simp only [if_neg h2]; rw [bad (by omega)]; exact Ev.now _
  · simp only [if_neg h1]; rw [bad (by omega)]; exact Ev.now _

def roundM (n d mode : Int) : Int × Int :=
  if okF n d = true then
    (if mode = 1 then (n / d, 0) else if mode = 2 then (if n % d > 0 then (n / d + 1, 0) else (n / d, 0))
      else if mode = 3 then (if 2 * (n % d) > d then (n / d + 1, 0) else if 2 * (n % d) = d then (if Int.tmod (n / d) 2 = 0 then (n / d, 0) else (n / d + 1, 0)) else (n / d, 0)) else (0, 17))
  else (0, 1)
theorem floor_bounds {n d : Int} (h1 : 1 ≤ d) (h3 : -1000000000 ≤ n) (h4 : n ≤ 1000000000) : -1000000000 ≤ n / d ∧ n / d ≤ 1000000000 := by
  constructor
  · rw [Int.le_ediv_iff_mul_le (by omega)]
    have : 1000000000 * 1 ≤ 1000000000 * d := Int.mul_le_mul_of_nonneg_left h1 (by decide)
    omega
  · have : n / d < 1000000000 + 1 := by
      rw [Int.ediv_lt_iff_lt_mul (by omega)]
      have : (1000000000 + 1) * 1 ≤ (1000000000 + 1) * d := Int.mul_le_mul_of_nonneg_left h1 (by decide)
      omega
    omega
theorem tdiv_floor (n d : Int) (h : 1 ≤ d) : n / d = if Int.tmod n d < 0 then Int.tdiv n d - 1 else Int.tdiv n d := by
  have e1 := Int.mul_tdiv_add_tmod n d
  have e2 := Int.mul_ediv_add_emod n d
  have m1 := Int.emod_nonneg n (show d ≠ 0 by omega)
  have m2 := Int.emod_lt_of_pos n (show 0 < d by omega)
  have m3 := Int.tmod_lt_of_pos n (show 0 < d by omega)
  have m4 : -d < Int.tmod n d := by
    have := Int.natAbs_tmod n d
    have h5 : (Int.tmod n d).natAbs < d.natAbs := by rw [this]; exact Nat.mod_lt _ (by omega)
    omega
  split
  · rename_i hn
    have : d * (n / d - (Int.tdiv n d - 1)) = (Int.tmod n d + d) - n % d := by rw [Int.mul_sub, Int.mul_sub]; omega
    have hz : n / d - (Int.tdiv n d - 1) = 0 := by
      rcases Int.lt_trichotomy (n / d - (Int.tdiv n d - 1)) 0 with h' | h' | h'
      · have : d * (n / d - (Int.tdiv n d - 1)) ≤ d * (-1) := Int.mul_le_mul_of_nonneg_left (by omega) (by omega)
        omega
      · exact h'
      · have : d * 1 ≤ d * (n / d - (Int.tdiv n d - 1)) := Int.mul_le_mul_of_nonneg_left (by omega) (by omega)
        omega
    omega
  · rename_i hn
    have : d * (n / d - Int.tdiv n d) = Int.tmod n d - n % d := by rw [Int.mul_sub]; omega
    have hz : n / d - Int.tdiv n d = 0 := by
      rcases Int.lt_trichotomy (n / d - Int.tdiv n d) 0 with h' | h' | h'
      · have : d * (n / d - Int.tdiv n d) ≤ d * (-1) := Int.mul_le_mul_of_nonneg_left (by omega) (by omega)
        omega
      · exact h'
      · have : d * 1 ≤ d * (n / d - Int.tdiv n d) := Int.mul_le_mul_of_nonneg_left (by omega) (by omega)
        omega
    omega
theorem tdiv_bounds {n d : Int} (h1 : 1 ≤ d) (h3 : -1000000000 ≤ n) (h4 : n ≤ 1000000000) : -1000000000 ≤ Int.tdiv n d ∧ Int.tdiv n d ≤ 1000000001 := by
  have f := tdiv_floor n d h1
  have b := floor_bounds h1 h3 h4
  split at f <;> omega
theorem mul_floor {n d : Int} : wrap64 (n - (n - n % d)) = wrap64 (n % d) := by congr 1; omega
theorem spec_round (n d mode : Int) : Ev (fun k => spec_FracRound.f k n d mode) (roundM n d mode) := by
  unfold spec_FracRound.f
  refine Ev.bind (spec_ok n d) ?_
  unfold roundM
  by_cases h : okF n d = true
  · simp only [if_pos h]
    obtain ⟨h1, h2, h3, h4, _⟩ := (okF_iff n d).1 h
    have f := tdiv_floor n d h1
    have b := floor_bounds h1 h3 h4
    have tb := tdiv_bounds h1 h3 h4
    have m1 := Int.emod_nonneg n (show d ≠ 0 by omega)
    have m2 := Int.emod_lt_of_pos n (show 0 < d by omega)
    have e2 := Int.mul_ediv_add_emod n d
    have hfl : spec_l01Floor.f n d = some (n / d) := by
      unfold spec_l01Floor.f
      have w1 : wrap64 (Int.tdiv n d) = Int.tdiv n d := wr (by omega) (by omega)
      have w2 : wrap64 (Int.tdiv n d - 1) = Int.tdiv n d - 1 := wr (by omega) (by omega)
      rw [if_neg (by omega), w1, w2, f]
      split <;> rfl
    have hm : wrap64 (n / d * d) = n - n % d := by rw [Int.mul_comm]; rw [wr (by omega) (by omega)]; omega
    have hr : wrap64 (n - (n - n % d)) = n % d := by rw [wr (by omega) (by omega)]; omega
    have h2r : wrap64 (2 * (n % d)) = 2 * (n % d) := wr (by omega) (by omega)
    have hs : wrap64 (n / d + 1) = n / d + 1 := wr (by omega) (by omega)
    simp only [hfl, Option.bind_some, hm, hr, h2r, hs]
    refine ev_const ?_
    grind
  · simp only [if_neg h]; exact Ev.now _
theorem impl_round (n d mode : Int) : Ev (fun k => impl_FracRound.f k n d mode) (roundM n d mode) := by
  unfold impl_FracRound.f
  refine Ev.bind (impl_ok n d) ?_
  unfold roundM
  by_cases h : okF n d = true
  · simp only [if_pos h]
    obtain ⟨h1, h2, h3, h4, hg⟩ := (okF_iff n d).1 h
    have f := tdiv_floor n d h1
    have b := floor_bounds h1 h3 h4
    have tb := tdiv_bounds h1 h3 h4
    have m1 := Int.emod_nonneg n (show d ≠ 0 by omega)
    have m2 := Int.emod_lt_of_pos n (show 0 < d by omega)
    have e2 := Int.mul_ediv_add_emod n d
    have hfl : impl_floorDiv.f n d = some (n / d) := by
      unfold impl_floorDiv.f
      rw [if_neg (by omega), wr (by omega) (by omega)]
      by_cases h0 : Int.tmod n d = 0
      · rw [if_pos h0]; rw [if_neg (by omega)] at f; rw [f]
      · rw [if_neg h0]
        have hd : ¬ d < 0 := by omega
        by_cases hn : n < 0
        · have : Int.tmod n d < 0 := by
            have := Int.tmod_nonneg d (show 0 ≤ -n by omega)
            rw [Int.neg_tmod] at this
            omega
          rw [if_pos this] at f
          simp only [hn, hd, decide_true, decide_false, bne_iff_ne, ne_eq, reduceCtorEq, not_false_eq_true, if_true]
          rw [wr (by omega) (by omega), f]
        · have : ¬ Int.tmod n d < 0 := by
            have := Int.tmod_nonneg d (show 0 ≤ n by omega)
            omega
          rw [if_neg this] at f
          simp only [hn, hd, decide_false, bne_self_eq_false, Bool.false_eq_true, if_false, f]
    have hs : wrap64 (n / d + 1) = n / d + 1 := wr (by omega) (by omega)
    have hm : wrap64 (n / d * d) = n - n % d := by rw [Int.mul_comm]; rw [wr (by omega) (by omega)]; omega
    have hr : wrap64 (n - (n - n % d)) = n % d := by rw [wr (by omega) (by omega)]; omega
    simp only [hfl, Option.bind_some, hs]
    by_cases hd : d > 1
    · simp only [if_pos hd]
      have hpos : n % d ≠ 0 := by
        intro h0
        have hdv : d.natAbs ∣ n.natAbs := Int.natAbs_dvd_natAbs.2 (Int.dvd_of_emod_eq_zero h0)
        rw [Nat.gcd_eq_right hdv] at hg
        omega
      have hu : wrap64 ((n / d + 1) * d) = n - n % d + d := by
        rw [Int.add_mul, Int.one_mul, Int.mul_comm]; rw [wr (by omega) (by omega)]; omega
      have hv : wrap64 (n - n % d + d - n) = d - n % d := by rw [wr (by omega) (by omega)]; omega
      refine ev_some fun k => ?_
      simp only [impl_FracRound.j0, hm, hr, hu, hv]
      grind
    · simp only [if_neg hd]
      obtain rfl : d = 1 := by omega
      refine ev_some fun k => ?_
      have z : n % 1 = 0 := by omega
      have q : n / 1 = n := by omega
      rw [q] at hm
      rw [z] at hm
      have hv : wrap64 (n - 0 - n) = 0 := by rw [wr (by omega) (by omega)]; omega
      simp only [impl_FracRound.j0, z, q, hm, hv]
      grind
  · simp only [if_neg h]; exact Ev.now _

theorem FnExactFracRound : laws_FnExactFracRound.Plain := by
  intro n d m _ _ _
  refine Ev.rounds ?_
  unfold laws_FnExactFracRound.f laws_toFrac.f
  simp only [Option.bind_some]
  refine Ev.bind (spec_round n d m) ?_
  refine Ev.bind (impl_round n d m) ?_
  exact ev_const (by simp)
end Go.Proofs.Ytbfjpolihoaafaa.Pure
