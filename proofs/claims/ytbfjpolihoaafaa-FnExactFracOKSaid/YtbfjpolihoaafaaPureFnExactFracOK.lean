/- FnExactFracOK over numbers alone: the program's FracOK and the reference's answer alike at every fraction. -/
import Derived.Test.YtbfjpolihoaafaaSFnExactFracOK
import Derived.Test.YtbfjpolihoaafaaLib
namespace Go.Proofs.Ytbfjpolihoaafaa.Pure
open Go.RowKit Go.Proofs.Ytbfjpolihoaafaa.PFnExactFracOK Go.Proofs.YtbfjpolihoaafaaW.PrintWords Go.Proofs.YtbfjpolihoaafaaW.PrintLast Go.Proofs.Ytbfjpolihoaafaa.Lib
set_option linter.unusedVariables false
set_option linter.unusedSimpArgs false

def okF (n d : Int) : Bool := decide (1 ≤ d ∧ d ≤ 1000000000 ∧ -1000000000 ≤ n ∧ n ≤ 1000000000 ∧ Nat.gcd n.natAbs d.natAbs = 1)
theorem okF_iff (n d : Int) : okF n d = true ↔ 1 ≤ d ∧ d ≤ 1000000000 ∧ -1000000000 ≤ n ∧ n ≤ 1000000000 ∧ Nat.gcd n.natAbs d.natAbs = 1 := by simp [okF]
theorem gcd_ev : ∀ (m : Nat) (a b : Int), b.natAbs ≤ m → ∃ g, Ev (fun k => spec_l01Gcd.l0 k a b) g ∧ g.natAbs = Nat.gcd a.natAbs b.natAbs := by
  intro m
  induction m with
  | zero =>
    intro a b hb
    obtain rfl : b = 0 := by omega
    exact ⟨a, ev_some fun k => by simp only [spec_l01Gcd.l0, if_true], by simp⟩
  | succ m ih =>
    intro a b hb
    by_cases h : b = 0
    · subst h
      exact ⟨a, ev_some fun k => by simp only [spec_l01Gcd.l0, if_true], by simp⟩
    · have hlt : (Int.tmod a b).natAbs < b.natAbs := by
        rw [Int.natAbs_tmod]; exact Nat.mod_lt _ (by omega)
      obtain ⟨g, hg, he⟩ := ih b (Int.tmod a b) (by omega)
      refine ⟨g, ev_one (fun k => by simp only [spec_l01Gcd.l0]; rw [if_neg h]) hg, ?_⟩
      rw [he, Int.natAbs_tmod, Nat.gcd_comm b.natAbs, ← Nat.gcd_rec, Nat.gcd_comm]
theorem impl_gcd_eq : ∀ (k : Nat) (a b : Int), impl_gcd.l0 k a b = (spec_l01Gcd.l0 k a b).bind fun g => if g < 0 then some (wrap64 (-g)) else some g := by
  intro k
  induction k with
  | zero => intro a b; rfl
  | succ k ih =>
    intro a b
    simp only [impl_gcd.l0, spec_l01Gcd.l0]
    by_cases h : b = 0
    · simp only [if_pos h, Option.bind_some]
    · simp only [if_neg h]; exact ih _ _
theorem abs_of (g : Int) (h : g.natAbs ≤ 1000000000) : (if g < 0 then some (wrap64 (-g)) else some g) = some (g.natAbs : Int) := by
  by_cases h0 : g < 0
  · rw [if_pos h0, wr (by omega) (by omega)]; congr 1; omega
  · rw [if_neg h0]; congr 1; omega
theorem gcd_le (n d : Int) (h1 : 1 ≤ d) (h2 : d ≤ 1000000000) : Nat.gcd n.natAbs d.natAbs ≤ 1000000000 :=
  Nat.le_trans (Nat.gcd_le_right _ (by omega)) (by omega)
theorem spec_ok (n d : Int) : Ev (fun k => spec_FracOK.f k n d) (okF n d) := by
  have bad : ¬ (1 ≤ d ∧ d ≤ 1000000000 ∧ -1000000000 ≤ n ∧ n ≤ 1000000000) → okF n d = false := fun h => by
    simp only [okF, decide_eq_false_iff_not]; intro h'; exact h ⟨h'.1, h'.2.1, h'.2.2.1, h'.2.2.2.1⟩
  have stop : okF n d = false → Ev (fun k => spec_FracOK.j0 k true n d) (okF n d) := fun h => by
    rw [h]; exact ev_some fun k => by simp only [spec_FracOK.j0, if_true]
  unfold spec_FracOK.f
  by_cases h1 : d < 1
  · simp only [if_pos h1]; exact stop (bad (by omega))
  · simp only [if_neg h1]
    by_cases h2 : d > 1000000000
    · simp only [if_pos h2]; exact stop (bad (by omega))
    · simp only [if_neg h2]
      by_cases h3 : n < -1000000000
      · simp only [if_pos h3]; exact stop (bad (by omega))
      · simp only [if_neg h3]
        by_cases h4 : n > 1000000000
        · simp only [h4, decide_true]; exact stop (bad (by omega))
        · simp only [h4, decide_false]
          obtain ⟨g, hg, he⟩ := gcd_ev _ n d (Nat.le_refl _)
          have hgl := gcd_le n d (by omega) (by omega)
          refine ev_one (f := fun k => (spec_l01Gcd.f k n d).bind fun t102 => (spec_l01Abs.f t102).bind fun t103 => some (t103 == 1)) (fun k => by simp only [spec_FracOK.j0]; rfl) ?_
          refine Ev.bind (g := fun k => spec_l01Gcd.f k n d) (a := g) hg ?_
          unfold spec_l01Abs.f
          rw [abs_of g (by omega)]
          refine ev_const ?_
          simp only [Option.bind_some, okF, he]
          congr 1
          rw [Bool.eq_iff_iff]
          simp only [beq_iff_eq, decide_eq_true_eq]
          constructor
          · intro h; exact ⟨by omega, by omega, by omega, by omega, by omega⟩
          · intro h; have := h.2.2.2.2; omega
theorem impl_ok (n d : Int) : Ev (fun k => impl_FracOK.f k n d) (okF n d) := by
  have bad : ¬ (1 ≤ d ∧ d ≤ 1000000000 ∧ -1000000000 ≤ n ∧ n ≤ 1000000000) → okF n d = false := fun h => by
    simp only [okF, decide_eq_false_iff_not]; intro h'; exact h ⟨h'.1, h'.2.1, h'.2.2.1, h'.2.2.2.1⟩
  unfold impl_FracOK.f
  by_cases h1 : d ≥ 1
  · simp only [if_pos h1]
    by_cases h2 : d ≤ 1000000000
    · simp only [if_pos h2]
      by_cases h3 : n ≥ -1000000000
      · simp only [if_pos h3]
        by_cases h4 : n ≤ 1000000000
        · simp only [if_pos h4]
          obtain ⟨g, hg, he⟩ := gcd_ev _ n d (Nat.le_refl _)
          have hgl := gcd_le n d (by omega) (by omega)
          have hi : Ev (fun k => impl_gcd.f k n d) (g.natAbs : Int) := by
            obtain ⟨K, hK⟩ := hg
            refine ⟨K, fun k hk => ?_⟩
            show impl_gcd.l0 k n d = _
            have hk1 : spec_l01Gcd.l0 k n d = some g := hK k hk
            rw [impl_gcd_eq, hk1, Option.bind_some, abs_of g (by omega)]
          refine Ev.bind hi ?_
          refine ev_const ?_
          simp only [okF, he]
          congr 1
          rw [Bool.eq_iff_iff]
          simp only [beq_iff_eq, decide_eq_true_eq]
          constructor
          · intro h; exact ⟨by omega, by omega, by omega, by omega, by omega⟩
          · intro h; have := h.2.2.2.2; omega
        · simp only [if_neg h4]; rw [bad (by omega)]; exact Ev.now _
      · simp only [if_neg h3]; rw [bad (by omega)]; exact Ev.now _
    · simp only [if_neg h2]; rw [bad (by omega)]; exact Ev.now _
  · simp only [if_neg h1]; rw [bad (by omega)]; exact Ev.now _

theorem FnExactFracOK : laws_FnExactFracOK.Plain := by
  intro n d _ _
  refine Ev.rounds ?_
  unfold laws_FnExactFracOK.f laws_toFrac.f
  simp only [Option.bind_some]
  refine Ev.bind (spec_ok n d) ?_
  refine Ev.bind (impl_ok n d) ?_
  exact ev_const (by simp)
end Go.Proofs.Ytbfjpolihoaafaa.Pure
