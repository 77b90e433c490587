/- FnExactSketchMove over numbers and lists alone: the program's SketchMove and the reference's answer alike at every sketch, point and place, which read as before; what came back is held. -/
import Derived.Test.YtnbkdfnlggmopaaSFnExactSketchMove
import Derived.Test.YtnbkdfnlggmopaaLib
namespace Go.Proofs.Ytnbkdfnlggmopaa.Pure
open Go.RowKit Go.Proofs.Ytnbkdfnlggmopaa.PFnExactSketchMove Go.Proofs.YtnbkdfnlggmopaaW.PrintWords Go.Proofs.YtnbkdfnlggmopaaW.PrintLast Go.Proofs.Ytnbkdfnlggmopaa.Lib
set_option linter.unusedVariables false
set_option linter.unusedSimpArgs false

def ruleOK (n f0 f1 f2 f3 : Int) : Bool := decide (1 ≤ f0 ∧ f0 ≤ 9 ∧ 0 ≤ f1 ∧ f1 < n ∧ (if 3 ≤ f0 then 0 ≤ f2 ∧ f2 < n else f2 = 0) ∧ (if f0 ≤ 6 then -100000 ≤ f3 ∧ f3 ≤ 100000 else f3 = 0))
def rulesOK (n : Int) (L : List S35) : Prop := ∀ i, i < L.length → ruleOK n (rd_T35 L (i : Int)).f0 (rd_T35 L (i : Int)).f1 (rd_T35 L (i : Int)).f2 (rd_T35 L (i : Int)).f3 = true
instance (n : Int) (L : List S35) : Decidable (rulesOK n L) := by unfold rulesOK; exact inferInstance
def sketchOK (n : Int) (L : List S35) : Bool := decide (1 ≤ n ∧ n ≤ 24 ∧ L.length ≤ 60 ∧ rulesOK n L)
theorem spec_sketch (n : Int) (L : List S35) (hL : L.length ≤ 2000000) : Ev (fun k => spec_SketchOK.f k n L) (sketchOK n L) := by
  have stop : sketchOK n L = false → Ev (fun k => spec_SketchOK.j0 k true n L) (sketchOK n L) := fun h => by
    rw [h]; exact ev_some fun k => by simp only [spec_SketchOK.j0, if_true]
  unfold spec_SketchOK.f
  by_cases h1 : n < 1
  · simp only [if_pos h1]; exact stop (by simp only [sketchOK, decide_eq_false_iff_not]; omega)
  · simp only [if_neg h1]
    by_cases h2 : n > 24
    · simp only [if_pos h2]; exact stop (by simp only [sketchOK, decide_eq_false_iff_not]; omega)
    · simp only [if_neg h2]
      by_cases h3 : (L.length : Int) > 60
      · simp only [h3, decide_true]; exact stop (by simp only [sketchOK, decide_eq_false_iff_not]; omega)
      · simp only [h3, decide_false]
        refine ev_one (f := fun k => spec_SketchOK.l0 k 0 n L) (fun k => by simp only [spec_SketchOK.j0, Bool.false_eq_true, if_false]) ?_
        have key := all_steps (r := true) (bad := false) (fun i k => spec_SketchOK.l0 k (i : Int) n L) L.length (fun i => ruleOK n (rd_T35 L (i : Int)).f0 (rd_T35 L (i : Int)).f1 (rd_T35 L (i : Int)).f2 (rd_T35 L (i : Int)).f3) (fun i hi hp q hq => by
            show Ev (fun k => spec_SketchOK.l0 k (i : Int) n L) q
            have hq' : Ev (fun k => spec_SketchOK.l0 k (wrap64 ((i : Int) + 1)) n L) q := by rw [wr_succ i (by omega)]; exact hq
            revert hp
            generalize e0 : (rd_T35 L (i : Int)).f0 = f0
            generalize e1 : (rd_T35 L (i : Int)).f1 = f1
            generalize e2 : (rd_T35 L (i : Int)).f2 = f2
            generalize e3 : (rd_T35 L (i : Int)).f3 = f3
            intro hp
            simp only [ruleOK, decide_eq_true_eq] at hp
            obtain ⟨p1, p2, p3, p4, p5, p6⟩ := hp
            refine ev_one (f := fun k => spec_SketchOK.j2 k (i : Int) false n L f0 f1 f2 f3) (fun k => by
              simp only [spec_SketchOK.l0, e0, e1, e2, e3]
              rw [if_pos (by omega), if_pos (by omega), if_neg (by omega), if_neg (by omega), if_neg (by omega), decide_eq_false (by omega)]) ?_
            refine ev_one (f := fun k => spec_SketchOK.j3 k (i : Int) (decide (f0 ≤ 6)) false n L f0 f1 f2 f3) (fun k => by
              simp only [spec_SketchOK.j2, spec_l04Wants.f, Option.bind_some, Bool.false_eq_true, if_false]
              by_cases g : 3 ≤ f0
              · rw [if_pos g] at p5
                have : decide (f0 ≥ 3) = true := decide_eq_true g
                rw [if_pos this, if_neg (by omega), if_neg (by omega)]
              · rw [if_neg g] at p5
                have : ¬ decide (f0 ≥ 3) = true := by simpa using g
                rw [if_neg this, p5]; rfl) ?_
            refine ev_one (f := fun k => spec_SketchOK.l0 k (wrap64 ((i : Int) + 1)) n L) (fun k => by
              simp only [spec_SketchOK.j3, Bool.false_eq_true, if_false, decide_eq_true_eq]
              by_cases g : f0 ≤ 6
              · rw [if_pos g] at p6
                rw [if_pos g, if_neg (by omega), if_neg (by omega)]
              · rw [if_neg g] at p6
                rw [if_neg g, if_pos p6]) hq')
          (fun i hi hp => by
            show Ev (fun k => spec_SketchOK.l0 k (i : Int) n L) false
            revert hp
            generalize e0 : (rd_T35 L (i : Int)).f0 = f0
            generalize e1 : (rd_T35 L (i : Int)).f1 = f1
            generalize e2 : (rd_T35 L (i : Int)).f2 = f2
            generalize e3 : (rd_T35 L (i : Int)).f3 = f3
            intro hp
            simp only [ruleOK, decide_eq_false_iff_not] at hp
            by_cases hb : 1 ≤ f0 ∧ f0 ≤ 9 ∧ 0 ≤ f1 ∧ f1 < n
            · refine ev_one (f := fun k => spec_SketchOK.j2 k (i : Int) false n L f0 f1 f2 f3) (fun k => by
                simp only [spec_SketchOK.l0, e0, e1, e2, e3]
                rw [if_pos (by omega), if_pos (by omega), if_neg (by omega), if_neg (by omega), if_neg (by omega), decide_eq_false (by omega)]) ?_
              refine ev_one (f := fun k => spec_SketchOK.j3 k (i : Int) (decide (f0 ≤ 6)) (!decide (if 3 ≤ f0 then 0 ≤ f2 ∧ f2 < n else f2 = 0)) n L f0 f1 f2 f3) (fun k => by
                simp only [spec_SketchOK.j2, spec_l04Wants.f, Option.bind_some, Bool.false_eq_true, if_false]
                by_cases g : 3 ≤ f0
                · have : decide (f0 ≥ 3) = true := decide_eq_true g
                  rw [if_pos this]
                  simp only [if_pos g]
                  by_cases g1 : f2 < 0
                  · rw [if_pos g1, show decide (0 ≤ f2 ∧ f2 < n) = false from decide_eq_false (by omega)]; rfl
                  · rw [if_neg g1]
                    by_cases g2 : f2 ≥ n
                    · rw [if_pos g2, show decide (0 ≤ f2 ∧ f2 < n) = false from decide_eq_false (by omega)]; rfl
                    · rw [if_neg g2, show decide (0 ≤ f2 ∧ f2 < n) = true from decide_eq_true (by omega)]; rfl
                · have : ¬ decide (f0 ≥ 3) = true := by simpa using g
                  rw [if_neg this]
                  simp only [if_neg g]
                  congr 1) ?_
              refine ev_some fun k => ?_
              simp only [spec_SketchOK.j3]
              by_cases g5 : (if 3 ≤ f0 then 0 ≤ f2 ∧ f2 < n else f2 = 0)
              · rw [decide_eq_true g5]
                simp only [Bool.not_true, Bool.false_eq_true, if_false, decide_eq_true_eq]
                have g6 : ¬ (if f0 ≤ 6 then -100000 ≤ f3 ∧ f3 ≤ 100000 else f3 = 0) := fun z => hp ⟨hb.1, hb.2.1, hb.2.2.1, hb.2.2.2, g5, z⟩
                by_cases g : f0 ≤ 6
                · rw [if_pos g] at g6
                  rw [if_pos g]
                  by_cases q1 : f3 < -100000
                  · rw [if_pos q1]
                  · rw [if_neg q1, if_pos (by omega)]
                · rw [if_neg g] at g6
                  rw [if_neg g, if_neg g6]
              · rw [decide_eq_false g5]; rfl
            · have hs : Ev (fun k => spec_SketchOK.j2 k (i : Int) true n L f0 f1 f2 f3) false := ev_some fun k => by simp only [spec_SketchOK.j2, if_true]
              refine ev_one (f := fun k => spec_SketchOK.j2 k (i : Int) true n L f0 f1 f2 f3) (fun k => by
                simp only [spec_SketchOK.l0, e0, e1, e2, e3]
                rw [if_pos (by omega), if_pos (by omega)]
                by_cases g1 : f0 < 1
                · rw [if_pos g1]
                · rw [if_neg g1]
                  by_cases g2 : f0 > 9
                  · rw [if_pos g2]
                  · rw [if_neg g2]
                    by_cases g3 : f1 < 0
                    · rw [if_pos g3]
                    · rw [if_neg g3, decide_eq_true (by omega)]) hs)
          (fun _ => ev_some fun k => by
            show spec_SketchOK.l0 (k + 1) (L.length : Int) n L = _
            simp only [spec_SketchOK.l0]; rw [if_neg (by omega)])
        have e : sketchOK n L = if rulesOK n L then true else false := by
          unfold sketchOK
          by_cases hc : rulesOK n L
          · rw [if_pos hc, decide_eq_true_eq]; exact ⟨by omega, by omega, by omega, hc⟩
          · rw [if_neg hc, decide_eq_false_iff_not]; exact fun h => hc h.2.2.2
        rw [e]; exact key

theorem impl_sketch (n : Int) (L : List S35) (hL : L.length ≤ 2000000) : Ev (fun k => impl_SketchOK.f k n L) (sketchOK n L) := by
  have stop : sketchOK n L = false → Ev (fun k => impl_SketchOK.j0 k true n L) (sketchOK n L) := fun h => by
    rw [h]; exact ev_some fun k => by simp only [impl_SketchOK.j0, if_true]
  unfold impl_SketchOK.f
  by_cases h1 : n < 1
  · simp only [if_pos h1]; exact stop (by simp only [sketchOK, decide_eq_false_iff_not]; omega)
  · simp only [if_neg h1]
    by_cases h2 : n > 24
    · simp only [if_pos h2]; exact stop (by simp only [sketchOK, decide_eq_false_iff_not]; omega)
    · simp only [if_neg h2]
      by_cases h3 : (L.length : Int) > 60
      · simp only [h3, decide_true]; exact stop (by simp only [sketchOK, decide_eq_false_iff_not]; omega)
      · simp only [h3, decide_false]
        refine ev_one (f := fun k => impl_SketchOK.l0 k L (L.length : Int) 0 n L) (fun k => by simp only [impl_SketchOK.j0, Bool.false_eq_true, if_false]) ?_
        have key := all_steps (r := true) (bad := false) (fun i k => impl_SketchOK.l0 k L (L.length : Int) (i : Int) n L) L.length (fun i => ruleOK n (rd_T35 L (i : Int)).f0 (rd_T35 L (i : Int)).f1 (rd_T35 L (i : Int)).f2 (rd_T35 L (i : Int)).f3) (fun i hi hp q hq => by
            show Ev (fun k => impl_SketchOK.l0 k L (L.length : Int) (i : Int) n L) q
            have hq' : Ev (fun k => impl_SketchOK.l0 k L (L.length : Int) (wrap64 ((i : Int) + 1)) n L) q := by rw [wr_succ i (by omega)]; exact hq
            revert hp
            generalize e0 : (rd_T35 L (i : Int)).f0 = f0
            generalize e1 : (rd_T35 L (i : Int)).f1 = f1
            generalize e2 : (rd_T35 L (i : Int)).f2 = f2
            generalize e3 : (rd_T35 L (i : Int)).f3 = f3
            intro hp
            simp only [ruleOK, decide_eq_true_eq] at hp
            obtain ⟨p1, p2, p3, p4, p5, p6⟩ := hp
            refine ev_one (f := fun k => impl_SketchOK.j2 k L (L.length : Int) (i : Int) false n L f0 f1 f2 f3) (fun k => by
              simp only [impl_SketchOK.l0, e0, e1, e2, e3]
              rw [if_pos (by omega), if_pos (by omega), if_pos (by omega), if_neg (by omega), if_neg (by omega), if_neg (by omega), decide_eq_false (by omega)]) ?_
            refine ev_one (f := fun k => impl_SketchOK.j3 k L (L.length : Int) (i : Int) false n L f0 f1 f2 f3) (fun k => by
              simp only [impl_SketchOK.j2, Bool.false_eq_true, if_false]
              by_cases g : 3 ≤ f0
              · rw [if_pos g] at p5
                rw [if_neg (by omega), if_neg (by omega), decide_eq_false (by omega)]
              · rw [if_neg g] at p5
                rw [if_pos (by omega), if_pos p5, if_neg (by omega), decide_eq_false (by omega)]) ?_
            refine ev_one (f := fun k => impl_SketchOK.l0 k L (L.length : Int) (wrap64 ((i : Int) + 1)) n L) (fun k => by
              simp only [impl_SketchOK.j3, Bool.false_eq_true, if_false]
              by_cases g : f0 ≤ 6
              · rw [if_pos g] at p6
                rw [if_neg (by omega), if_neg (by omega), if_neg (by omega)]
              · rw [if_neg g] at p6
                rw [if_pos (by omega), if_pos p6, if_neg (by omega), if_neg (by omega)]) hq')
          (fun i hi hp => by
            show Ev (fun k => impl_SketchOK.l0 k L (L.length : Int) (i : Int) n L) false
            revert hp
            generalize e0 : (rd_T35 L (i : Int)).f0 = f0
            generalize e1 : (rd_T35 L (i : Int)).f1 = f1
            generalize e2 : (rd_T35 L (i : Int)).f2 = f2
            generalize e3 : (rd_T35 L (i : Int)).f3 = f3
            intro hp
            simp only [ruleOK, decide_eq_false_iff_not] at hp
            by_cases hb : 1 ≤ f0 ∧ f0 ≤ 9 ∧ 0 ≤ f1 ∧ f1 < n
            · refine ev_one (f := fun k => impl_SketchOK.j2 k L (L.length : Int) (i : Int) false n L f0 f1 f2 f3) (fun k => by
                simp only [impl_SketchOK.l0, e0, e1, e2, e3]
                rw [if_pos (by omega), if_pos (by omega), if_pos (by omega), if_neg (by omega), if_neg (by omega), if_neg (by omega), decide_eq_false (by omega)]) ?_
              refine ev_one (f := fun k => impl_SketchOK.j3 k L (L.length : Int) (i : Int) (!decide (if 3 ≤ f0 then 0 ≤ f2 ∧ f2 < n else f2 = 0)) n L f0 f1 f2 f3) (fun k => by
                simp only [impl_SketchOK.j2, Bool.false_eq_true, if_false]
                by_cases g : 3 ≤ f0
                · simp only [if_pos g]
                  rw [if_neg (by omega)]
                  by_cases g1 : f2 < 0
                  · rw [if_pos g1, show decide (0 ≤ f2 ∧ f2 < n) = false from decide_eq_false (by omega)]; rfl
                  · rw [if_neg g1]; congr 1; rw [Bool.eq_iff_iff]; simp; omega
                · simp only [if_neg g]
                  rw [if_pos (by omega)]
                  by_cases g0 : f2 = 0
                  · rw [if_pos g0, if_neg (by omega), decide_eq_false (by omega), decide_eq_true g0]; rfl
                  · rw [if_neg g0, decide_eq_false g0]; rfl) ?_
              refine ev_some fun k => ?_
              simp only [impl_SketchOK.j3]
              by_cases g5 : (if 3 ≤ f0 then 0 ≤ f2 ∧ f2 < n else f2 = 0)
              · rw [decide_eq_true g5]
                simp only [Bool.not_true, Bool.false_eq_true, if_false]
                have g6 : ¬ (if f0 ≤ 6 then -100000 ≤ f3 ∧ f3 ≤ 100000 else f3 = 0) := fun z => hp ⟨hb.1, hb.2.1, hb.2.2.1, hb.2.2.2, g5, z⟩
                by_cases g : f0 ≤ 6
                · rw [if_pos g] at g6
                  rw [if_neg (by omega)]
                  by_cases q1 : f3 < -100000
                  · rw [if_pos q1]
                  · rw [if_neg q1, if_pos (by omega)]
                · rw [if_neg g] at g6
                  rw [if_pos (by omega), if_neg g6]
              · rw [decide_eq_false g5]; rfl
            · have hs : Ev (fun k => impl_SketchOK.j2 k L (L.length : Int) (i : Int) true n L f0 f1 f2 f3) false := ev_some fun k => by simp only [impl_SketchOK.j2, if_true]
              refine ev_one (f := fun k => impl_SketchOK.j2 k L (L.length : Int) (i : Int) true n L f0 f1 f2 f3) (fun k => by
                simp only [impl_SketchOK.l0, e0, e1, e2, e3]
                rw [if_pos (by omega), if_pos (by omega), if_pos (by omega)]
                by_cases g1 : f0 < 1
                · rw [if_pos g1]
                · rw [if_neg g1]
                  by_cases g2 : f0 > 9
                  · rw [if_pos g2]
                  · rw [if_neg g2]
                    by_cases g3 : f1 < 0
                    · rw [if_pos g3]
                    · rw [if_neg g3, decide_eq_true (by omega)]) hs)
          (fun _ => ev_some fun k => by
            show impl_SketchOK.l0 (k + 1) L (L.length : Int) (L.length : Int) n L = _
            simp only [impl_SketchOK.l0]; rw [if_neg (by omega)])
        have e : sketchOK n L = if rulesOK n L then true else false := by
          unfold sketchOK
          by_cases hc : rulesOK n L
          · rw [if_pos hc, decide_eq_true_eq]; exact ⟨by omega, by omega, by omega, hc⟩
          · rw [if_neg hc, decide_eq_false_iff_not]; exact fun h => hc h.2.2.2
        rw [e]; exact key

/-- One step: the node e.2.1 is at least the node e.1 and e.2.2. -/
def stepE (s : List Int × Bool) (e : Nat × Nat × Int) : List Int × Bool :=
  if s.1.getD e.1 0 + e.2.2 > s.1.getD e.2.1 0 then (s.1.set e.2.1 (s.1.getD e.1 0 + e.2.2), true) else s
def turnE (E : List (Nat × Nat × Int)) (v : List Int) : List Int × Bool := E.foldl stepE (v, false)
def vsE (E : List (Nat × Nat × Int)) (n : Nat) : Nat → List Int
  | 0 => List.replicate (n + 1) 0
  | t + 1 => (turnE E (vsE E n t)).1
def grE (E : List (Nat × Nat × Int)) (n : Nat) (t : Nat) : Bool := (turnE E (vsE E n t)).2
def InE (E : List (Nat × Nat × Int)) (n : Nat) : Prop := ∀ e ∈ E, e.1 ≤ n ∧ e.2.1 ≤ n
theorem stepE_len (s : List Int × Bool) (e : Nat × Nat × Int) : (stepE s e).1.length = s.1.length := by
  unfold stepE; split <;> simp
theorem foldE_len (E : List (Nat × Nat × Int)) : ∀ s : List Int × Bool, (E.foldl stepE s).1.length = s.1.length := by
  induction E with
  | nil => intro s; rfl
  | cons e E ih => intro s; rw [List.foldl_cons, ih, stepE_len]
theorem vsE_len (E : List (Nat × Nat × Int)) (n t : Nat) : (vsE E n t).length = n + 1 := by
  induction t with
  | zero => simp [vsE]
  | succ t ih => simp only [vsE, turnE]; rw [foldE_len]; exact ih
theorem getD_set (l : List Int) (i j : Nat) (a : Int) (hi : i < l.length) : (l.set i a).getD j 0 = if i = j then a else l.getD j 0 := by
  simp only [List.getD_eq_getElem?_getD, List.getElem?_set]
  by_cases h : i = j
  · subst h; simp [hi]
  · simp [h]
theorem stepE_up (s : List Int × Bool) (e : Nat × Nat × Int) (x : Nat) (h : e.2.1 < s.1.length) : s.1.getD x 0 ≤ (stepE s e).1.getD x 0 := by
  unfold stepE
  split
  · rw [getD_set _ _ _ _ h]; split
    · subst_vars; omega
    · omega
  · omega
theorem stepE_at (s : List Int × Bool) (e : Nat × Nat × Int) (h : e.2.1 < s.1.length) : s.1.getD e.1 0 + e.2.2 ≤ (stepE s e).1.getD e.2.1 0 := by
  unfold stepE
  split
  · rw [getD_set _ _ _ _ h, if_pos rfl]; omega
  · omega
theorem foldE_up (E : List (Nat × Nat × Int)) (x : Nat) : ∀ s : List Int × Bool, (∀ e ∈ E, e.2.1 < s.1.length) → s.1.getD x 0 ≤ (E.foldl stepE s).1.getD x 0 := by
  induction E with
  | nil => intro s _; exact Int.le_refl _
  | cons e E ih =>
    intro s h
    rw [List.foldl_cons]
    have a := stepE_up s e x (h e (by simp))
    have b := ih (stepE s e) (fun e' he => by rw [stepE_len]; exact h e' (by simp [he]))
    omega
theorem vsE_up (E : List (Nat × Nat × Int)) (n : Nat) (hE : InE E n) (t x : Nat) : (vsE E n t).getD x 0 ≤ (vsE E n (t + 1)).getD x 0 := by
  have := foldE_up E x (vsE E n t, false) (fun e he => by have := vsE_len E n t; have := (hE e he).2; show e.2.1 < (vsE E n t).length; omega)
  exact this
theorem vsE_mono (E : List (Nat × Nat × Int)) (n : Nat) (hE : InE E n) (x t : Nat) : ∀ s, t ≤ s → (vsE E n t).getD x 0 ≤ (vsE E n s).getD x 0 := by
  intro s hs
  induction s with
  | zero => obtain rfl : t = 0 := by omega
            exact Int.le_refl _
  | succ s ih =>
    rcases Nat.lt_or_ge s t with h | h
    · obtain rfl : t = s + 1 := by omega
      exact Int.le_refl _
    · have := ih h; have := vsE_up E n hE s x; omega
theorem fold_true (E : List (Nat × Nat × Int)) : ∀ s : List Int × Bool, s.2 = true → (E.foldl stepE s).2 = true := by
  induction E with
  | nil => intro s h; exact h
  | cons e E ih =>
    intro s h
    rw [List.foldl_cons]
    refine ih _ ?_
    unfold stepE; split <;> simp [h]
/-- A quiet turn changes nothing, and each edge is kept. -/
theorem fold_quiet (E : List (Nat × Nat × Int)) : ∀ s : List Int × Bool, (E.foldl stepE s).2 = false → (E.foldl stepE s) = s ∧ ∀ e ∈ E, s.1.getD e.1 0 + e.2.2 ≤ s.1.getD e.2.1 0 := by
  induction E with
  | nil => intro s _; exact ⟨rfl, by simp⟩
  | cons e E ih =>
    intro s h
    rw [List.foldl_cons] at h ⊢
    by_cases hc : s.1.getD e.1 0 + e.2.2 > s.1.getD e.2.1 0
    · have : stepE s e = (s.1.set e.2.1 (s.1.getD e.1 0 + e.2.2), true) := by unfold stepE; rw [if_pos hc]
      rw [this] at h
      rw [fold_true E _ rfl] at h; cases h
    · have hs : stepE s e = s := by unfold stepE; rw [if_neg hc]
      rw [hs] at h ⊢
      obtain ⟨a, b⟩ := ih s h
      refine ⟨a, fun e' he => ?_⟩
      rcases List.mem_cons.1 he with rfl | he
      · omega
      · exact b e' he
theorem fold_kept (E : List (Nat × Nat × Int)) : ∀ s : List Int × Bool, (∀ e ∈ E, s.1.getD e.1 0 + e.2.2 ≤ s.1.getD e.2.1 0) → E.foldl stepE s = s := by
  induction E with
  | nil => intro s _; rfl
  | cons e E ih =>
    intro s h
    rw [List.foldl_cons]
    have hs : stepE s e = s := by unfold stepE; rw [if_neg (by have := h e (by simp); omega)]
    rw [hs]; exact ih s (fun e' he => h e' (by simp [he]))
def Kept (E : List (Nat × Nat × Int)) (v : List Int) : Prop := ∀ e ∈ E, v.getD e.1 0 + e.2.2 ≤ v.getD e.2.1 0
theorem gr_kept (E : List (Nat × Nat × Int)) (n t : Nat) : grE E n t = false ↔ Kept E (vsE E n t) := by
  constructor
  · intro h; exact (fold_quiet E (vsE E n t, false) h).2
  · intro h; unfold grE turnE; rw [fold_kept E (vsE E n t, false) h]
theorem quiet_same (E : List (Nat × Nat × Int)) (n t : Nat) (h : grE E n t = false) : vsE E n (t + 1) = vsE E n t := by
  show (turnE E (vsE E n t)).1 = _
  unfold turnE; rw [fold_kept E (vsE E n t, false) ((gr_kept E n t).1 h)]
theorem quiet_all (E : List (Nat × Nat × Int)) (n t : Nat) (h : grE E n t = false) : ∀ s, t ≤ s → vsE E n s = vsE E n t ∧ grE E n s = false := by
  intro s hs
  induction s with
  | zero => obtain rfl : t = 0 := by omega
            exact ⟨rfl, h⟩
  | succ s ih =>
    rcases Nat.lt_or_ge s t with h' | h'
    · obtain rfl : t = s + 1 := by omega
      exact ⟨rfl, h⟩
    · obtain ⟨a, b⟩ := ih h'
      have c := quiet_same E n s b
      refine ⟨c.trans a, ?_⟩
      unfold grE at *; rw [c]; exact b
/-- Rounds below a kept list of values stay below it. -/
theorem fold_below (E : List (Nat × Nat × Int)) (f : List Int) (hf : ∀ e ∈ E, f.getD e.1 0 + e.2.2 ≤ f.getD e.2.1 0) : ∀ s : List Int × Bool, (∀ e ∈ E, e.2.1 < s.1.length) → (∀ x, s.1.getD x 0 ≤ f.getD x 0) → ∀ x, (E.foldl stepE s).1.getD x 0 ≤ f.getD x 0 := by
  induction E with
  | nil => intro s _ h; exact h
  | cons e E ih =>
    intro s hl h
    rw [List.foldl_cons]
    refine ih (fun e' he => hf e' (by simp [he])) _ (fun e' he => by rw [stepE_len]; exact hl e' (by simp [he])) (fun x => ?_)
    unfold stepE
    split
    · rw [getD_set _ _ _ _ (hl e (by simp))]
      split
      · subst_vars; have := hf e (by simp); have := h e.1; omega
      · exact h x
    · exact h x
/-- A node whose value isn't the last one keeps its own where no node that isn't final becomes final. -/
theorem fold_stuck (F : List (Nat × Nat × Int)) (f : List Int) (U : Nat → Prop)
    (hU : ∀ e ∈ F, U e.2.1 → ¬ U e.1 → f.getD e.1 0 + e.2.2 < f.getD e.2.1 0) (hf : ∀ e ∈ F, f.getD e.1 0 + e.2.2 ≤ f.getD e.2.1 0) :
    ∀ s : List Int × Bool, (∀ e ∈ F, e.2.1 < s.1.length) → (∀ x, s.1.getD x 0 ≤ f.getD x 0) → (∀ x, U x → s.1.getD x 0 < f.getD x 0) → ∀ x, U x → (F.foldl stepE s).1.getD x 0 < f.getD x 0 := by
  induction F with
  | nil => intro s _ _ h; exact h
  | cons e F ih =>
    intro s hl hb h
    rw [List.foldl_cons]
    refine ih (fun e' he => hU e' (by simp [he])) (fun e' he => hf e' (by simp [he])) _ (fun e' he => by rw [stepE_len]; exact hl e' (by simp [he])) (fun x => ?_) (fun x hx => ?_)
    · have := fold_below [e] f (fun e' he => hf e' (by simp at he; simp [he])) s (fun e' he => hl e' (by simp at he; simp [he])) hb x
      exact this
    · unfold stepE
      split
      · rw [getD_set _ _ _ _ (hl e (by simp))]
        split
        · subst_vars
          by_cases hu : U e.1
          · have := hf e (by simp); have := h e.1 hu; omega
          · have := hU e (by simp) hx hu; have := hb e.1; omega
        · exact h x hx
      · exact h x hx
theorem count_lt (l : List Nat) (p q : Nat → Bool) (h : ∀ x ∈ l, q x = true → p x = true) : l.countP q ≤ l.countP p ∧ ((∃ x ∈ l, p x = true ∧ q x = false) → l.countP q < l.countP p) := by
  induction l with
  | nil => simp
  | cons a l ih =>
    obtain ⟨i1, i2⟩ := ih (fun x hx => h x (by simp [hx]))
    have ha := h a (by simp)
    simp only [List.countP_cons]
    constructor
    · cases hp : p a <;> cases hq : q a <;> simp_all <;> omega
    · rintro ⟨x, hx, px, qx⟩
      rcases List.mem_cons.1 hx with rfl | hx
      · simp [px, qx]; omega
      · have := i2 ⟨x, hx, px, qx⟩
        cases hp : p a <;> cases hq : q a <;> simp_all <;> omega
/-- Where the rounds ever end with nothing at 0, round n grows nothing. -/
theorem quiet_by (E : List (Nat × Nat × Int)) (n : Nat) (hE : InE E n) (s : Nat) (hq : grE E n s = false) (h0 : (vsE E n s).getD n 0 = 0) : grE E n n = false := by
  by_cases hs : s ≤ n
  · exact (quiet_all E n s hq n hs).2
  have hk := (gr_kept E n s).1 hq
  generalize hf : vsE E n s = f at *
  let nf : Nat → Nat → Bool := fun t x => decide ((vsE E n t).getD x 0 < f.getD x 0)
  have le : ∀ t, t ≤ s → ∀ x, (vsE E n t).getD x 0 ≤ f.getD x 0 := fun t ht x => by rw [← hf]; exact vsE_mono E n hE x t s ht
  have lt_len : ∀ t, ∀ e ∈ E, e.2.1 < (vsE E n t).length := fun t e he => by rw [vsE_len]; have := (hE e he).2; omega
  -- where no node becomes final in a round, all are
  have A : ∀ t, t < s → (∀ x, nf t x = true → nf (t + 1) x = true) → ∀ x, nf t x = false := by
    intro t ht hsame x
    cases hx : nf t x with
    | false => rfl
    | true =>
      exfalso
      have hU : ∀ e ∈ E, nf t e.2.1 = true → ¬ nf t e.1 = true → f.getD e.1 0 + e.2.2 < f.getD e.2.1 0 := by
        intro e he h1 h2
        have a := hsame _ h1
        have b : (vsE E n t).getD e.1 0 = f.getD e.1 0 := by have := le t (by omega) e.1; simp only [nf, decide_eq_true_eq] at h2; omega
        -- the round's value at e.2.1 is at least that of e.1 and e.2.2
        have c : (vsE E n t).getD e.1 0 + e.2.2 ≤ (vsE E n (t + 1)).getD e.2.1 0 := by
          show _ ≤ (turnE E (vsE E n t)).1.getD e.2.1 0
          obtain ⟨E1, E2, rfl⟩ := List.append_of_mem he
          unfold turnE
          rw [List.foldl_append, List.foldl_cons]
          have l1 : ∀ e' ∈ E1, e'.2.1 < (vsE (E1 ++ e :: E2) n t, false).1.length := fun e' h' => lt_len t e' (by simp [h'])
          have u1 := foldE_up E1 e.1 (vsE (E1 ++ e :: E2) n t, false) l1
          have l2 : (E1.foldl stepE (vsE (E1 ++ e :: E2) n t, false)).1.length = (vsE (E1 ++ e :: E2) n t).length := foldE_len E1 _
          have u2 := stepE_at (E1.foldl stepE (vsE (E1 ++ e :: E2) n t, false)) e (by rw [l2]; exact lt_len t e he)
          have u3 := foldE_up E2 e.2.1 (stepE (E1.foldl stepE (vsE (E1 ++ e :: E2) n t, false)) e) (fun e' h' => by rw [stepE_len, l2]; exact lt_len t e' (by simp [h']))
          have u1' : (vsE (E1 ++ e :: E2) n t).getD e.1 0 ≤ (E1.foldl stepE (vsE (E1 ++ e :: E2) n t, false)).1.getD e.1 0 := u1
          omega
        simp only [nf, decide_eq_true_eq] at a
        omega
      have stay : ∀ d, t + d ≤ s → ∀ x, nf t x = true → (vsE E n (t + d)).getD x 0 < f.getD x 0 := by
        intro d
        induction d with
        | zero => intro _ x hx; simpa [nf] using hx
        | succ d ih =>
          intro hd x hx
          exact fold_stuck E f (fun x => nf t x = true) hU hk (vsE E n (t + d), false) (lt_len (t + d)) (le (t + d) (by omega)) (ih (by omega)) x hx
      have := stay (s - t) (by omega) x hx
      rw [show t + (s - t) = s by omega, hf] at this
      omega
  have B : ∀ t, t ≤ n → (List.range (n + 1)).countP (nf t) ≤ n - t := by
    intro t
    induction t with
    | zero =>
      intro _
      have z : nf 0 n = false := by
        simp only [nf, decide_eq_false_iff_not]
        have := le 0 (by omega) n
        rw [h0] at this ⊢
        simp [vsE]
      rw [List.range_succ, List.countP_append]
      simp only [List.countP_cons, List.countP_nil, z, Bool.false_eq_true, if_false, Nat.add_zero, Nat.sub_zero]
      have := List.countP_le_length (p := nf 0) (l := List.range n)
      simpa using this
    | succ t ih =>
      intro ht
      have i := ih (by omega)
      have mono : ∀ x ∈ List.range (n + 1), nf (t + 1) x = true → nf t x = true := by
        intro x _ hx
        simp only [nf, decide_eq_true_eq] at *
        have := vsE_up E n hE t x; omega
      obtain ⟨c1, c2⟩ := count_lt (List.range (n + 1)) (nf t) (nf (t + 1)) mono
      by_cases hex : ∃ x ∈ List.range (n + 1), nf t x = true ∧ nf (t + 1) x = false
      · have := c2 hex; omega
      · have hsame : ∀ x, nf t x = true → nf (t + 1) x = true := by
          intro x hx
          cases hc : nf (t + 1) x with
          | true => rfl
          | false =>
            exfalso
            by_cases hm : x < n + 1
            · exact hex ⟨x, by simpa using hm, hx, hc⟩
            · simp only [nf, decide_eq_true_eq] at hx
              have l1 := vsE_len E n t
              have l2 := vsE_len E n s
              rw [hf] at l2
              rw [List.getD_eq_getElem?_getD, List.getD_eq_getElem?_getD, List.getElem?_eq_none (by omega), List.getElem?_eq_none (by omega)] at hx
              simp at hx
        have all := A t (by omega) hsame
        have : (List.range (n + 1)).countP (nf (t + 1)) = 0 := by
          rw [List.countP_eq_zero]
          intro x hx hx'
          have := mono x hx hx'
          rw [all x] at this; cases this
        omega
  have fin : ∀ x, (vsE E n n).getD x 0 = f.getD x 0 := by
    intro x
    have b := B n (Nat.le_refl _)
    have c : (List.range (n + 1)).countP (nf n) = 0 := by omega
    rw [List.countP_eq_zero] at c
    by_cases hm : x < n + 1
    · have := c x (by simpa using hm)
      simp only [nf, decide_eq_true_eq] at this
      have := le n (by omega) x; omega
    · have l1 := vsE_len E n n
      have l2 := vsE_len E n s
      rw [hf] at l2
      rw [List.getD_eq_getElem?_getD, List.getD_eq_getElem?_getD, List.getElem?_eq_none (by omega), List.getElem?_eq_none (by omega)]
  rw [gr_kept]
  intro e he
  rw [fin, fin]; exact hk e he

/-! ### What rules say of one axis -/
def ruleE (n axis : Nat) (r : S35) : List (Nat × Nat × Int) :=
  if r.f0 = 1 + (axis : Int) then [(n, r.f1.toNat, r.f3), (r.f1.toNat, n, -r.f3)]
  else if r.f0 = 3 + (axis : Int) then [(r.f1.toNat, r.f2.toNat, r.f3), (r.f2.toNat, r.f1.toNat, -r.f3)]
  else if r.f0 = 5 + (axis : Int) then [(r.f1.toNat, r.f2.toNat, r.f3)]
  else if r.f0 = 7 + (axis : Int) then [(r.f1.toNat, r.f2.toNat, 0), (r.f2.toNat, r.f1.toNat, 0)]
  else if r.f0 = 9 then [(r.f1.toNat, r.f2.toNat, 0), (r.f2.toNat, r.f1.toNat, 0)]
  else []
def baseE (n m : Nat) : List (Nat × Nat × Int) := (List.range m).flatMap fun i => [(n, i, 0), (i, n, -100000)]
def edgesE (n axis : Nat) (L : List S35) (idx : List Nat) : List (Nat × Nat × Int) := baseE n n ++ idx.flatMap fun (i : Nat) => ruleE n axis (rd_T35 L (i : Int))
def lowOf (e : Nat × Nat × Int) : S81 := ⟨(e.1 : Int), (e.2.1 : Int), e.2.2⟩
def stepOf (e : Nat × Nat × Int) : S92 := ⟨(e.1 : Int), (e.2.1 : Int), e.2.2⟩
def idxE (v : List Bool) (m : Nat) : List Nat := (List.range m).filter fun (i : Nat) => rdOf false v (i : Int)
structure GoodE (E : List (Nat × Nat × Int)) (n : Nat) : Prop where
  inE : InE E n
  num : ∀ e ∈ E, -100000 ≤ e.2.2 ∧ e.2.2 ≤ 100000
  len : E.length ≤ 168
theorem ruleE_len (n axis : Nat) (r : S35) : (ruleE n axis r).length ≤ 2 := by
  unfold ruleE; repeat (first | split | simp)
theorem baseE_len (n m : Nat) : (baseE n m).length = 2 * m := by
  unfold baseE
  induction m with
  | zero => rfl
  | succ m ih => rw [List.range_succ, List.flatMap_append, List.length_append, ih]; simp; omega
theorem flat_len (n axis : Nat) (L : List S35) (idx : List Nat) : (idx.flatMap fun (i : Nat) => ruleE n axis (rd_T35 L (i : Int))).length ≤ 2 * idx.length := by
  induction idx with
  | nil => simp
  | cons a t ih =>
    rw [List.flatMap_cons, List.length_append]
    have := ruleE_len n axis (rd_T35 L (a : Int))
    simp only [List.length_cons]; omega
theorem ruleE_ok (n axis : Nat) (ha : axis ≤ 1) (r : S35) (h : ruleOK (n : Int) r.f0 r.f1 r.f2 r.f3 = true) : ∀ e ∈ ruleE n axis r, (e.1 ≤ n ∧ e.2.1 ≤ n) ∧ -100000 ≤ e.2.2 ∧ e.2.2 ≤ 100000 := by
  obtain ⟨f0, f1, f2, f3⟩ := r
  simp only [ruleOK, decide_eq_true_eq] at h
  obtain ⟨p1, p2, p3, p4, p5, p6⟩ := h
  intro e he
  simp only [ruleE] at he
  split at he
  · rw [if_pos (by omega)] at p6
    simp only [List.mem_cons, List.not_mem_nil, or_false] at he
    rcases he with rfl | rfl <;> exact ⟨⟨by dsimp only; omega, by dsimp only; omega⟩, by dsimp only; omega, by dsimp only; omega⟩
  split at he
  · by_cases g : f0 ≤ 6
    · rw [if_pos g] at p6
      rw [if_pos (by omega)] at p5
      simp only [List.mem_cons, List.not_mem_nil, or_false] at he
      rcases he with rfl | rfl <;> exact ⟨⟨by dsimp only; omega, by dsimp only; omega⟩, by dsimp only; omega, by dsimp only; omega⟩
    · rw [if_neg g] at p6
      rw [if_pos (by omega)] at p5
      simp only [List.mem_cons, List.not_mem_nil, or_false] at he
      rcases he with rfl | rfl <;> exact ⟨⟨by dsimp only; omega, by dsimp only; omega⟩, by dsimp only; omega, by dsimp only; omega⟩
  split at he
  · by_cases g : f0 ≤ 6
    · rw [if_pos g] at p6
      rw [if_pos (by omega)] at p5
      simp only [List.mem_cons, List.not_mem_nil, or_false] at he
      rcases he with rfl <;> exact ⟨⟨by dsimp only; omega, by dsimp only; omega⟩, by dsimp only; omega, by dsimp only; omega⟩
    · rw [if_neg g] at p6
      rw [if_pos (by omega)] at p5
      simp only [List.mem_cons, List.not_mem_nil, or_false] at he
      rcases he with rfl <;> exact ⟨⟨by dsimp only; omega, by dsimp only; omega⟩, by dsimp only; omega, by dsimp only; omega⟩
  split at he
  · rw [if_pos (by omega)] at p5
    simp only [List.mem_cons, List.not_mem_nil, or_false] at he
    rcases he with rfl | rfl <;> exact ⟨⟨by dsimp only; omega, by dsimp only; omega⟩, by dsimp only; omega, by dsimp only; omega⟩
  split at he
  · rw [if_pos (by omega)] at p5
    simp only [List.mem_cons, List.not_mem_nil, or_false] at he
    rcases he with rfl | rfl <;> exact ⟨⟨by dsimp only; omega, by dsimp only; omega⟩, by dsimp only; omega, by dsimp only; omega⟩
  · cases he
theorem edges_good (n axis : Nat) (hn : n ≤ 24) (ha : axis ≤ 1) (L : List S35) (hR : rulesOK (n : Int) L) (idx : List Nat) (hi : idx.length ≤ 60) (hb : ∀ i ∈ idx, i < L.length) : GoodE (edgesE n axis L idx) n := by
  have hm : ∀ e ∈ edgesE n axis L idx, (e.1 ≤ n ∧ e.2.1 ≤ n) ∧ -100000 ≤ e.2.2 ∧ e.2.2 ≤ 100000 := by
    intro e he
    rcases List.mem_append.1 he with he | he
    · obtain ⟨i, hi, he⟩ := List.mem_flatMap.1 he
      have := List.mem_range.1 hi
      simp only [List.mem_cons, List.not_mem_nil, or_false] at he
      rcases he with rfl | rfl <;> exact ⟨⟨by dsimp only; omega, by dsimp only; omega⟩, by dsimp only; omega, by dsimp only; omega⟩
    · obtain ⟨i, hi, he⟩ := List.mem_flatMap.1 he
      exact ruleE_ok n axis ha _ (hR i (hb i hi)) e he
  refine ⟨fun e he => (hm e he).1, fun e he => (hm e he).2, ?_⟩
  have a := baseE_len n n
  have b := flat_len n axis L idx
  unfold edgesE
  rw [List.length_append]; omega
/-! ### The program's rows of an axis -/
theorem lows_step (k n axis i : Nat) (ha : axis ≤ 1) (L : List S35) (v : List Bool) (hv : v.length = L.length) (x8 : List S81) (h8 : x8.length ≤ 1000) (hi : i < L.length) (hL : L.length ≤ 60)
    (hr : ruleOK (n : Int) (rd_T35 L (i : Int)).f0 (rd_T35 L (i : Int)).f1 (rd_T35 L (i : Int)).f2 (rd_T35 L (i : Int)).f3 = true) :
    impl_lows.l1 (k + 1) (axis : Int) v (n : Int) x8 L (L.length : Int) (i : Int) = impl_lows.l1 k (axis : Int) v (n : Int) (x8 ++ (if rdOf false v (i : Int) = true then (ruleE n axis (rd_T35 L (i : Int))).map lowOf else [])) L (L.length : Int) ((i + 1 : Nat) : Int) := by
  simp only [impl_lows.l1]
  rw [if_pos (by omega), if_pos (by omega), if_pos (by omega), if_pos (by omega), wr_succ i (by omega)]
  by_cases hf : ¬ rdOf false v (i : Int) = true
  · rw [if_neg hf, if_neg hf, List.append_nil]
  have hf : rdOf false v (i : Int) = true := Decidable.not_not.1 hf
  rw [if_pos hf, if_pos hf, wr (n := 1 + (axis : Int)) (by omega) (by omega), wr (n := 3 + (axis : Int)) (by omega) (by omega), wr (n := 5 + (axis : Int)) (by omega) (by omega), wr (n := 7 + (axis : Int)) (by omega) (by omega)]
  revert hr
  generalize rd_T35 L (i : Int) = r
  obtain ⟨f0, f1, f2, f3⟩ := r
  intro hr
  simp only [ruleOK, decide_eq_true_eq] at hr
  obtain ⟨p1, p2, p3, p4, p5, p6⟩ := hr
  have t1 : (f1.toNat : Int) = f1 := by omega
  dsimp only [ruleE]
  by_cases g1 : f0 = 1 + (axis : Int)
  · rw [if_pos (show f0 ≤ 6 by omega)] at p6
    rw [if_pos g1, if_pos g1]
    simp only [Option.bind_some, List.length_cons, List.length_nil]
    rw [if_pos (by omega), wr (n := -f3) (by omega) (by omega)]
    simp only [List.map_cons, List.map_nil, lowOf, t1]
  have t2 : 3 ≤ f0 → (f2.toNat : Int) = f2 := fun h => by rw [if_pos h] at p5; omega
  rw [if_neg g1, if_neg g1]
  by_cases g2 : f0 = 3 + (axis : Int)
  · rw [if_pos (show f0 ≤ 6 by omega)] at p6
    rw [if_pos g2, if_pos g2]
    simp only [Option.bind_some, List.length_cons, List.length_nil]
    rw [if_pos (by omega), wr (n := -f3) (by omega) (by omega)]
    simp only [List.map_cons, List.map_nil, lowOf, t1, t2 (by omega)]
  rw [if_neg g2, if_neg g2]
  by_cases g3 : f0 = 5 + (axis : Int)
  · rw [if_pos g3, if_pos g3, if_pos (by omega)]
    simp only [List.map_cons, List.map_nil, lowOf, t1, t2 (by omega)]
  rw [if_neg g3, if_neg g3]
  by_cases g4 : f0 = 7 + (axis : Int)
  · rw [if_pos g4, if_pos g4]
    simp only [Option.bind_some, List.length_cons, List.length_nil]
    rw [if_pos (by omega)]
    simp only [List.map_cons, List.map_nil, lowOf, t1, t2 (by omega), Int.neg_zero]
  rw [if_neg g4, if_neg g4]
  by_cases g5 : f0 = 9
  · rw [if_pos g5, if_pos g5]
    simp only [Option.bind_some, List.length_cons, List.length_nil]
    rw [if_pos (by omega)]
    simp only [List.map_cons, List.map_nil, lowOf, t1, t2 (by omega), Int.neg_zero]
  · rw [if_neg g5, if_neg g5, List.map_nil, List.append_nil]
theorem baseE_succ (n i : Nat) : baseE n (i + 1) = baseE n i ++ [(n, i, 0), (i, n, -100000)] := by
  unfold baseE; rw [List.range_succ, List.flatMap_append]; rfl
theorem idxE_succ (v : List Bool) (i : Nat) : idxE v (i + 1) = idxE v i ++ (if rdOf false v (i : Int) = true then [i] else []) := by
  unfold idxE; rw [List.range_succ, List.filter_append]
  congr 1
  by_cases h : rdOf false v (i : Int) = true
  · rw [if_pos h]; simp [h]
  · rw [if_neg h]; simp [h]
theorem idxE_len (v : List Bool) (m : Nat) : (idxE v m).length ≤ m := by
  have := List.length_filter_le (fun (i : Nat) => rdOf false v (i : Int)) (List.range m)
  simpa [idxE] using this
theorem idxE_lt (v : List Bool) (m : Nat) : ∀ i ∈ idxE v m, i < m := by
  intro i h; unfold idxE at h; have := (List.mem_filter.1 h).1; simpa using this
theorem impl_lows_ev (n axis : Nat) (hn : n ≤ 24) (ha : axis ≤ 1) (L : List S35) (hL : L.length ≤ 60) (hR : rulesOK (n : Int) L) (v : List Bool) (hv : v.length = L.length) :
    Ev (fun k => impl_lows.f k (n : Int) L (axis : Int) v) ((edgesE n axis L (idxE v L.length)).map lowOf) := by
  unfold impl_lows.f
  have h2 := ev_run0 (r := (edgesE n axis L (idxE v L.length)).map lowOf) (fun i k => impl_lows.l1 k (axis : Int) v (n : Int) ((edgesE n axis L (idxE v i)).map lowOf) L (L.length : Int) (i : Int)) L.length (fun i hi k => by
    show impl_lows.l1 (k + 1) _ _ _ _ _ _ _ = impl_lows.l1 k _ _ _ _ _ _ _
    have a := baseE_len n n
    have b := flat_len n axis L (idxE v i)
    have c := idxE_len v i
    rw [lows_step k n axis i ha L v hv _ (by rw [List.length_map]; unfold edgesE; rw [List.length_append]; omega) hi hL (hR i hi)]
    congr 1
    rw [idxE_succ]
    unfold edgesE
    by_cases h : rdOf false v (i : Int) = true
    · rw [if_pos h, if_pos h]; simp
    · rw [if_neg h, if_neg h]; simp) (ev_some fun k => by
    show impl_lows.l1 (k + 1) _ _ _ _ _ _ (L.length : Int) = _
    simp only [impl_lows.l1]; rw [if_neg (by omega)])
  have h1 := ev_run0 (r := (edgesE n axis L (idxE v L.length)).map lowOf) (fun i k => impl_lows.l0 k (axis : Int) v (n : Int) ((baseE n i).map lowOf) (i : Int) (n : Int) L) n (fun i hi k => by
    show impl_lows.l0 (k + 1) _ _ _ _ _ _ _ = impl_lows.l0 k _ _ _ _ _ _ _
    have a := baseE_len n i
    simp only [impl_lows.l0, Option.bind_some, List.length_map, List.length_cons, List.length_nil]
    rw [if_pos (by omega), if_pos (by omega), wr_succ i (by omega), baseE_succ, List.map_append]
    rfl) (ev_one (fun k => by
    show impl_lows.l0 (k + 1) _ _ _ _ (n : Int) _ _ = impl_lows.l1 k (axis : Int) v (n : Int) ((baseE n n).map lowOf) L (L.length : Int) 0
    simp only [impl_lows.l0]; rw [if_neg (by omega)]) (by simpa [edgesE, idxE] using h2))
  exact h1
/-! ### The reference's steps of an axis -/
theorem steps_step (k n axis j : Nat) (ha : axis ≤ 1) (L : List S35) (idx : List Nat) (x8 : List S92) (h8 : x8.length ≤ 1000) (hj : j < idx.length) (hb : idx[j] < L.length) (hL : L.length ≤ 60) (hi : idx.length ≤ 60)
    (hr : ruleOK (n : Int) (rd_T35 L (idx[j] : Int)).f0 (rd_T35 L (idx[j] : Int)).f1 (rd_T35 L (idx[j] : Int)).f2 (rd_T35 L (idx[j] : Int)).f3 = true) :
    spec_l04Steps.l1 (k + 1) (idx.map fun i : Nat => (i : Int)) (axis : Int) (n : Int) x8 (j : Int) (n : Int) L = spec_l04Steps.l1 k (idx.map fun i : Nat => (i : Int)) (axis : Int) (n : Int) (x8 ++ (ruleE n axis (rd_T35 L (idx[j] : Int))).map stepOf) ((j + 1 : Nat) : Int) (n : Int) L := by
  have hrd : rd (idx.map fun i : Nat => (i : Int)) (j : Int) = (idx[j] : Int) := by rw [rd_lt _ _ (by simpa using hj)]; simp
  simp only [spec_l04Steps.l1]
  rw [hrd, if_pos (by simp; omega), if_pos (by omega), if_pos (by omega), if_pos (by omega), wr_succ j (by omega)]
  rw [wr (n := 1 + (axis : Int)) (by omega) (by omega), wr (n := 3 + (axis : Int)) (by omega) (by omega), wr (n := 5 + (axis : Int)) (by omega) (by omega), wr (n := 7 + (axis : Int)) (by omega) (by omega)]
  revert hr
  generalize rd_T35 L (idx[j] : Int) = r
  obtain ⟨f0, f1, f2, f3⟩ := r
  intro hr
  simp only [ruleOK, decide_eq_true_eq] at hr
  obtain ⟨p1, p2, p3, p4, p5, p6⟩ := hr
  have t1 : (f1.toNat : Int) = f1 := by omega
  dsimp only [ruleE]
  by_cases g1 : f0 = 1 + (axis : Int)
  · rw [if_pos (show f0 ≤ 6 by omega)] at p6
    rw [if_pos g1, if_pos g1]
    simp only [Option.bind_some, List.length_cons, List.length_nil]
    rw [if_pos (by omega), wr (n := -f3) (by omega) (by omega)]
    simp only [List.map_cons, List.map_nil, stepOf, t1]
  have t2 : 3 ≤ f0 → (f2.toNat : Int) = f2 := fun h => by rw [if_pos h] at p5; omega
  rw [if_neg g1, if_neg g1]
  by_cases g2 : f0 = 3 + (axis : Int)
  · rw [if_pos (show f0 ≤ 6 by omega)] at p6
    rw [if_pos g2, if_pos g2]
    simp only [Option.bind_some, List.length_cons, List.length_nil]
    rw [if_pos (by omega), wr (n := -f3) (by omega) (by omega)]
    simp only [List.map_cons, List.map_nil, stepOf, t1, t2 (by omega)]
  rw [if_neg g2, if_neg g2]
  by_cases g3 : f0 = 5 + (axis : Int)
  · rw [if_pos g3, if_pos g3, if_pos (by omega)]
    simp only [List.map_cons, List.map_nil, stepOf, t1, t2 (by omega)]
  rw [if_neg g3, if_neg g3]
  by_cases g4 : f0 = 7 + (axis : Int)
  · rw [if_pos g4, if_pos g4]
    simp only [Option.bind_some, List.length_cons, List.length_nil]
    rw [if_pos (by omega)]
    simp only [List.map_cons, List.map_nil, stepOf, t1, t2 (by omega)]
  rw [if_neg g4, if_neg g4]
  by_cases g5 : f0 = 9
  · rw [if_pos g5, if_pos g5]
    simp only [Option.bind_some, List.length_cons, List.length_nil]
    rw [if_pos (by omega)]
    simp only [List.map_cons, List.map_nil, stepOf, t1, t2 (by omega)]
  · rw [if_neg g5, if_neg g5, List.map_nil, List.append_nil]
theorem spec_steps_ev (n axis : Nat) (hn : n ≤ 24) (ha : axis ≤ 1) (L : List S35) (hL : L.length ≤ 60) (hR : rulesOK (n : Int) L) (idx : List Nat) (hi : idx.length ≤ 60) (hb : ∀ i ∈ idx, i < L.length) :
    Ev (fun k => spec_l04Steps.f k (n : Int) L (idx.map fun i : Nat => (i : Int)) (axis : Int)) ((edgesE n axis L idx).map stepOf) := by
  unfold spec_l04Steps.f
  have h2 := ev_run0 (r := (edgesE n axis L idx).map stepOf) (fun j k => spec_l04Steps.l1 k (idx.map fun i : Nat => (i : Int)) (axis : Int) (n : Int) ((edgesE n axis L (idx.take j)).map stepOf) (j : Int) (n : Int) L) idx.length (fun j hj k => by
    show spec_l04Steps.l1 (k + 1) _ _ _ _ _ _ _ = spec_l04Steps.l1 k _ _ _ _ _ _ _
    have a := baseE_len n n
    have b := flat_len n axis L (idx.take j)
    have c : (idx.take j).length ≤ 60 := by simp; omega
    have hm : idx[j] < L.length := hb _ (List.getElem_mem hj)
    rw [steps_step k n axis j ha L idx _ (by rw [List.length_map]; unfold edgesE; rw [List.length_append]; omega) hj hm hL hi (hR _ hm)]
    congr 1
    rw [List.take_succ_eq_append_getElem hj]
    unfold edgesE
    rw [List.flatMap_append, ← List.append_assoc, List.map_append (l₂ := List.flatMap _ [_])]
    congr 1
    simp) (ev_some fun k => by
    show spec_l04Steps.l1 (k + 1) _ _ _ _ (idx.length : Int) _ _ = _
    simp only [spec_l04Steps.l1]; rw [if_neg (by simp), List.take_length])
  have h1 := ev_run0 (r := (edgesE n axis L idx).map stepOf) (fun i k => spec_l04Steps.l0 k (idx.map fun i : Nat => (i : Int)) (axis : Int) (n : Int) ((baseE n i).map stepOf) (i : Int) (n : Int) L) n (fun i hi k => by
    show spec_l04Steps.l0 (k + 1) _ _ _ _ _ _ _ = spec_l04Steps.l0 k _ _ _ _ _ _ _
    have a := baseE_len n i
    simp only [spec_l04Steps.l0, Option.bind_some, List.length_map, List.length_cons, List.length_nil]
    rw [if_pos (by omega), if_pos (by omega), wr_succ i (by omega), baseE_succ, List.map_append]
    rfl) (ev_one (fun k => by
    show spec_l04Steps.l0 (k + 1) _ _ _ _ (n : Int) _ _ = spec_l04Steps.l1 k (idx.map fun i : Nat => (i : Int)) (axis : Int) (n : Int) ((baseE n n).map stepOf) 0 (n : Int) L
    simp only [spec_l04Steps.l0]; rw [if_neg (by omega)]) (by simpa [edgesE] using h2))
  exact h1

/-! ### Turns over the rows -/
def BndE (v : List Int) (B : Int) : Prop := ∀ x, 0 ≤ v.getD x 0 ∧ v.getD x 0 ≤ B
theorem fold_bnd (E : List (Nat × Nat × Int)) : ∀ (s : List Int × Bool) (B : Int), (∀ e ∈ E, e.2.1 < s.1.length ∧ -100000 ≤ e.2.2 ∧ e.2.2 ≤ 100000) → BndE s.1 B → BndE (E.foldl stepE s).1 (B + 100000 * (E.length : Int)) := by
  induction E with
  | nil => intro s B _ h; simpa using h
  | cons e E ih =>
    intro s B hE h
    rw [List.foldl_cons]
    have := ih (stepE s e) (B + 100000) (fun e' he => by rw [stepE_len]; exact hE e' (by simp [he])) (fun x => by
      have a := hE e (by simp)
      unfold stepE
      split
      · rw [getD_set _ _ _ _ a.1]
        split
        · have b := h e.1; have c := h e.2.1; omega
        · have b := h x; omega
      · have b := h x; omega)
    intro x
    have := this x
    rw [List.length_cons]; omega
theorem vsE_bnd (E : List (Nat × Nat × Int)) (n : Nat) (g : GoodE E n) (t : Nat) : BndE (vsE E n t) (16800000 * (t : Int)) := by
  induction t with
  | zero =>
    intro x
    have : (vsE E n 0).getD x 0 = 0 := by
      simp only [vsE, List.getD_eq_getElem?_getD, List.getElem?_replicate]; split <;> rfl
    omega
  | succ t ih =>
    have h := fold_bnd E (vsE E n t, false) (16800000 * (t : Int)) (fun e he => by have := vsE_len E n t; have a := (g.inE e he).2; exact ⟨by show e.2.1 < (vsE E n t).length; omega, g.num e he⟩) ih
    intro x
    have := h x
    have l := g.len
    have : 0 ≤ (vsE E n (t + 1)).getD x 0 ∧ (vsE E n (t + 1)).getD x 0 ≤ 16800000 * (t : Int) + 100000 * (E.length : Int) := this
    omega
theorem rd_low (E : List (Nat × Nat × Int)) (j : Nat) (h : j < E.length) : rd_T81 (E.map lowOf) (j : Int) = lowOf E[j] := by
  unfold rd_T81
  rw [Int.toNat_natCast]; simp [h]
theorem rd_step (E : List (Nat × Nat × Int)) (j : Nat) (h : j < E.length) : rd_T92 (E.map stepOf) (j : Int) = stepOf E[j] := by
  unfold rd_T92
  rw [Int.toNat_natCast]; simp [h]
theorem rd_nat (xs : List Int) (i : Nat) : rd xs (i : Int) = xs.getD i 0 := rfl
theorem impl_turn (E : List (Nat × Nat × Int)) (n : Nat) (g : GoodE E n) (v : List Int) (hv : v.length = n + 1) (hb : BndE v 1000000000) (x1 : List Bool) (x6 : List S48) (x7 x10 : Int) (L : List S35) {r : List S48 × Bool}
    (h : Ev (fun k => impl_leastOf.l2 k x1 x6 x7 (E.map lowOf) (turnE E v).1 x10 (turnE E v).2 (E.map lowOf) (E.length : Int) (E.length : Int) (n : Int) L) r) :
    Ev (fun k => impl_leastOf.l1 k x1 x6 x7 (E.map lowOf) v x10 (n : Int) L) r := by
  have hl := g.len
  have := ev_run0 (r := r) (fun j k => impl_leastOf.l2 k x1 x6 x7 (E.map lowOf) ((E.take j).foldl stepE (v, false)).1 x10 ((E.take j).foldl stepE (v, false)).2 (E.map lowOf) (E.length : Int) (j : Int) (n : Int) L) E.length (fun j hj k => by
    show impl_leastOf.l2 (k + 1) _ _ _ _ _ _ _ _ _ _ _ _ = impl_leastOf.l2 k _ _ _ _ _ _ _ _ _ _ _ _
    have hsl : ((E.take j).foldl stepE (v, false)).1.length = n + 1 := by rw [foldE_len]; exact hv
    have hsb := fold_bnd (E.take j) (v, false) 1000000000 (fun e he => ⟨by have := (g.inE e (List.mem_of_mem_take he)).2; show e.2.1 < v.length; omega, g.num e (List.mem_of_mem_take he)⟩) hb
    have hjl : (E.take j).length ≤ 168 := by simp; omega
    rw [List.take_succ_eq_append_getElem hj, List.foldl_append]
    simp only [List.foldl_cons, List.foldl_nil]
    revert hsl hsb
    generalize (E.take j).foldl stepE (v, false) = s
    intro hsl hsb
    obtain ⟨s1, s2⟩ := s
    have hsl : s1.length = n + 1 := hsl
    simp only [impl_leastOf.l2]
    rw [rd_low E j hj]
    have g1 := g.inE E[j] (List.getElem_mem hj)
    have g2 := g.num E[j] (List.getElem_mem hj)
    revert g1 g2
    generalize E[j] = e
    intro g1 g2
    have b1 := hsb e.1
    have hc : wrap64 (rd s1 (lowOf e).f0 + (lowOf e).f2) = s1.getD e.1 0 + e.2.2 := wr (n := s1.getD e.1 0 + e.2.2) (by have := b1.1; dsimp only at this; omega) (by have := b1.2; dsimp only at this; omega)
    have hd : rd s1 (lowOf e).f1 = s1.getD e.2.1 0 := rfl
    by_cases q : s1.getD e.1 0 + e.2.2 > s1.getD e.2.1 0
    · have q' : wrap64 (rd s1 (lowOf e).f0 + (lowOf e).f2) > rd s1 (lowOf e).f1 := by rw [hc, hd]; exact q
      rw [if_pos (by omega), if_pos (by omega), if_pos (by simp; omega), if_pos (by simp only [lowOf]; omega), if_pos (by simp only [lowOf]; omega), if_pos (by simp only [lowOf]; omega), if_pos (by simp only [lowOf]; omega), if_pos q', hc, wr_succ j (by omega)]
      unfold stepE
      dsimp only
      rw [if_pos q]; rfl
    · have q' : ¬ wrap64 (rd s1 (lowOf e).f0 + (lowOf e).f2) > rd s1 (lowOf e).f1 := by rw [hc, hd]; exact q
      rw [if_pos (by omega), if_pos (by omega), if_pos (by simp; omega), if_pos (by simp only [lowOf]; omega), if_pos (by simp only [lowOf]; omega), if_pos (by simp only [lowOf]; omega), if_pos (by simp only [lowOf]; omega), if_neg q', wr_succ j (by omega)]
      unfold stepE
      dsimp only
      rw [if_neg q]) (by rw [List.take_length]; exact h)
  refine ev_one (fun k => ?_) this
  simp only [impl_leastOf.l1, List.take_zero, List.foldl_nil, List.length_map]
  rfl
theorem spec_turn (E : List (Nat × Nat × Int)) (n : Nat) (g : GoodE E n) (v : List Int) (hv : v.length = n + 1) (hb : BndE v 1000000000) (x10 : Int) (L : List S35) {r : List Int × Bool}
    (h : Ev (fun k => spec_l04Least.l1 k (E.map stepOf) (turnE E v).1 x10 (turnE E v).2 (E.length : Int) (n : Int) L) r) :
    Ev (fun k => spec_l04Least.l1 k (E.map stepOf) v x10 false 0 (n : Int) L) r := by
  have hl := g.len
  exact ev_run0 (r := r) (fun j k => spec_l04Least.l1 k (E.map stepOf) ((E.take j).foldl stepE (v, false)).1 x10 ((E.take j).foldl stepE (v, false)).2 (j : Int) (n : Int) L) E.length (fun j hj k => by
    show spec_l04Least.l1 (k + 1) _ _ _ _ _ _ _ = spec_l04Least.l1 k _ _ _ _ _ _ _
    have hsl : ((E.take j).foldl stepE (v, false)).1.length = n + 1 := by rw [foldE_len]; exact hv
    have hsb := fold_bnd (E.take j) (v, false) 1000000000 (fun e he => ⟨by have := (g.inE e (List.mem_of_mem_take he)).2; show e.2.1 < v.length; omega, g.num e (List.mem_of_mem_take he)⟩) hb
    have hjl : (E.take j).length ≤ 168 := by simp; omega
    rw [List.take_succ_eq_append_getElem hj, List.foldl_append]
    simp only [List.foldl_cons, List.foldl_nil]
    revert hsl hsb
    generalize (E.take j).foldl stepE (v, false) = s
    intro hsl hsb
    obtain ⟨s1, s2⟩ := s
    have hsl : s1.length = n + 1 := hsl
    simp only [spec_l04Least.l1]
    rw [rd_step E j hj]
    have g1 := g.inE E[j] (List.getElem_mem hj)
    have g2 := g.num E[j] (List.getElem_mem hj)
    revert g1 g2
    generalize E[j] = e
    intro g1 g2
    have b1 := hsb e.1
    have hc : wrap64 (rd s1 (stepOf e).f0 + (stepOf e).f2) = s1.getD e.1 0 + e.2.2 := wr (n := s1.getD e.1 0 + e.2.2) (by have := b1.1; dsimp only at this; omega) (by have := b1.2; dsimp only at this; omega)
    have hd : rd s1 (stepOf e).f1 = s1.getD e.2.1 0 := rfl
    by_cases q : s1.getD e.1 0 + e.2.2 > s1.getD e.2.1 0
    · have q' : wrap64 (rd s1 (stepOf e).f0 + (stepOf e).f2) > rd s1 (stepOf e).f1 := by rw [hc, hd]; exact q
      rw [if_pos (by simp; omega), if_pos (by omega), if_pos (by simp only [stepOf]; omega), if_pos (by simp only [stepOf]; omega), if_pos (by simp only [stepOf]; omega), if_pos (by simp only [stepOf]; omega), if_pos q', hc, wr_succ j (by omega)]
      unfold stepE
      dsimp only
      rw [if_pos q]; rfl
    · have q' : ¬ wrap64 (rd s1 (stepOf e).f0 + (stepOf e).f2) > rd s1 (stepOf e).f1 := by rw [hc, hd]; exact q
      rw [if_pos (by simp; omega), if_pos (by omega), if_pos (by simp only [stepOf]; omega), if_pos (by simp only [stepOf]; omega), if_pos (by simp only [stepOf]; omega), if_pos (by simp only [stepOf]; omega), if_neg q', wr_succ j (by omega)]
      unfold stepE
      dsimp only
      rw [if_neg q]) (by rw [List.take_length]; exact h)
/-! ### The least values of an axis -/
def okE (E : List (Nat × Nat × Int)) (n : Nat) : Bool := !grE E n n && decide ((vsE E n n).getD n 0 = 0)
theorem okE_of (E : List (Nat × Nat × Int)) (n : Nat) (hE : InE E n) (t : Nat) (hq : grE E n t = false) (h0 : (vsE E n t).getD n 0 = 0) : okE E n = true := by
  have q := quiet_by E n hE t hq h0
  have : (vsE E n n).getD n 0 = 0 := by
    rcases Nat.lt_or_ge n t with h | h
    · rw [← (quiet_all E n n q t (by omega)).1]; exact h0
    · rw [(quiet_all E n t hq n h).1]; exact h0
  unfold okE; rw [q, this]; rfl
theorem vsE_zero (E : List (Nat × Nat × Int)) (n : Nat) (hE : InE E n) (t : Nat) : 0 ≤ (vsE E n t).getD n 0 := by
  have := vsE_mono E n hE n 0 t (by omega)
  have z : (vsE E n 0).getD n 0 = 0 := by simp [vsE]
  omega
theorem bnd_le {v : List Int} {B C : Int} (h : BndE v B) (hc : B ≤ C) : BndE v C := fun x => by have := h x; omega
theorem impl_axis_ok (E : List (Nat × Nat × Int)) (n : Nat) (hn : n ≤ 24) (g : GoodE E n) (x1 : List Bool) (x6 : List S48) (x7 : Int) (L : List S35) {r : List S48 × Bool} (hok : okE E n = true)
    (h : Ev (fun k => impl_leastOf.l3 k x1 x6 x7 (vsE E n n) (x6.length : Int) 0 (n : Int) L) r) :
    ∀ m t, t + m = n → Ev (fun k => impl_leastOf.l1 k x1 x6 x7 (E.map lowOf) (vsE E n t) (t : Int) (n : Int) L) r := by
  simp only [okE, Bool.and_eq_true, Bool.not_eq_true', decide_eq_true_eq] at hok
  obtain ⟨q, z⟩ := hok
  intro m
  induction m with
  | zero =>
    intro t ht
    obtain rfl : t = n := by omega
    refine impl_turn E t g _ (vsE_len E t t) (bnd_le (vsE_bnd E t g t) (by omega)) x1 x6 x7 _ L ?_
    have e2 : (turnE E (vsE E t t)).2 = false := q
    have e1 : (turnE E (vsE E t t)).1 = vsE E t t := quiet_same E t t q
    rw [e1, e2]
    refine ev_one (fun k => ?_) h
    simp only [impl_leastOf.l2]; rw [if_neg (by omega)]; rfl
  | succ m ih =>
    intro t ht
    refine impl_turn E n g _ (vsE_len E n t) (bnd_le (vsE_bnd E n g t) (by omega)) x1 x6 x7 _ L ?_
    cases hq : grE E n t with
    | false =>
      have e2 : (turnE E (vsE E n t)).2 = false := hq
      have e1 : (turnE E (vsE E n t)).1 = vsE E n n := (quiet_same E n t hq).trans (quiet_all E n t hq n (by omega)).1.symm
      rw [e1, e2]
      refine ev_one (fun k => ?_) h
      simp only [impl_leastOf.l2]; rw [if_neg (by omega)]; rfl
    | true =>
      have e2 : (turnE E (vsE E n t)).2 = true := hq
      have e1 : (turnE E (vsE E n t)).1 = vsE E n (t + 1) := rfl
      rw [e1, e2]
      refine ev_one (fun k => ?_) (ih (t + 1) (by omega))
      have hl := vsE_len E n (t + 1)
      have hz : (vsE E n (t + 1)).getD n 0 ≤ 0 := by have := vsE_mono E n g.inE n (t + 1) n (by omega); omega
      simp only [impl_leastOf.l2]
      rw [if_neg (by omega), if_pos (by trivial), wr (n := (n : Int) + 1) (by omega) (by omega), if_neg (by omega), if_pos (by omega), if_pos (by omega), rd_nat, if_neg (by omega), wr_succ t (by omega)]
theorem impl_axis_no (E : List (Nat × Nat × Int)) (n : Nat) (hn : n ≤ 24) (g : GoodE E n) (x1 : List Bool) (x6 : List S48) (x7 : Int) (L : List S35) (hok : okE E n = false) :
    ∀ m t, t + m = n + 2 → (vsE E n t).getD n 0 ≤ 0 → Ev (fun k => impl_leastOf.l1 k x1 x6 x7 (E.map lowOf) (vsE E n t) (t : Int) (n : Int) L) ([], false) := by
  have grows : ∀ t, (vsE E n t).getD n 0 ≤ 0 → grE E n t = true := by
    intro t h0
    cases hq : grE E n t with
    | true => rfl
    | false =>
      have := okE_of E n g.inE t hq (by have := vsE_zero E n g.inE t; omega)
      rw [hok] at this; cases this
  intro m
  induction m with
  | zero =>
    intro t ht h0
    refine impl_turn E n g _ (vsE_len E n t) (bnd_le (vsE_bnd E n g t) (by omega)) x1 x6 x7 _ L ?_
    have e2 : (turnE E (vsE E n t)).2 = true := grows t h0
    rw [e2]
    refine ev_some fun k => ?_
    simp only [impl_leastOf.l2]
    rw [if_neg (by omega), if_pos (by trivial), wr (n := (n : Int) + 1) (by omega) (by omega), if_pos (by omega)]
  | succ m ih =>
    intro t ht h0
    refine impl_turn E n g _ (vsE_len E n t) (bnd_le (vsE_bnd E n g t) (by omega)) x1 x6 x7 _ L ?_
    have e2 : (turnE E (vsE E n t)).2 = true := grows t h0
    have e1 : (turnE E (vsE E n t)).1 = vsE E n (t + 1) := rfl
    rw [e1, e2]
    have hl := vsE_len E n (t + 1)
    by_cases hz : (vsE E n (t + 1)).getD n 0 > 0
    · refine ev_some fun k => ?_
      simp only [impl_leastOf.l2]
      rw [if_neg (by omega), if_pos (by trivial), wr (n := (n : Int) + 1) (by omega) (by omega), if_neg (by omega), if_pos (by omega), if_pos (by omega), rd_nat, if_pos hz]
    · refine ev_one (fun k => ?_) (ih (t + 1) (by omega) (by omega))
      simp only [impl_leastOf.l2]
      rw [if_neg (by omega), if_pos (by trivial), wr (n := (n : Int) + 1) (by omega) (by omega), if_neg (by omega), if_pos (by omega), if_pos (by omega), rd_nat, if_neg hz, wr_succ t (by omega)]
theorem spec_axis (E : List (Nat × Nat × Int)) (n : Nat) (hn : n ≤ 24) (g : GoodE E n) (L : List S35) :
    ∀ m t, t + m = n + 2 → (∀ s, s < t → grE E n s = true) → ∃ l, Ev (fun k => spec_l04Least.l0 k (E.map stepOf) (vsE E n t) (t : Int) (n : Int) L) (l, okE E n) ∧ l.length = n + 1 ∧ (okE E n = true → l = vsE E n n) := by
  intro m
  induction m with
  | zero =>
    intro t ht hs
    have hok : okE E n = false := by simp [okE, hs n (by omega)]
    refine ⟨vsE E n t, ?_, vsE_len E n t, fun h => by rw [hok] at h; cases h⟩
    rw [hok]
    refine ev_some fun k => ?_
    simp only [spec_l04Least.l0]
    rw [wr (n := (n : Int) + 1) (by omega) (by omega), if_neg (by omega)]
  | succ m ih =>
    intro t ht hs
    have start : ∀ {r}, Ev (fun k => spec_l04Least.l1 k (E.map stepOf) (turnE E (vsE E n t)).1 (t : Int) (turnE E (vsE E n t)).2 (E.length : Int) (n : Int) L) r → Ev (fun k => spec_l04Least.l0 k (E.map stepOf) (vsE E n t) (t : Int) (n : Int) L) r := fun h => by
      refine ev_one (fun k => ?_) (spec_turn E n g _ (vsE_len E n t) (bnd_le (vsE_bnd E n g t) (by omega)) (t : Int) L h)
      simp only [spec_l04Least.l0]
      rw [wr (n := (n : Int) + 1) (by omega) (by omega), if_pos (by omega)]
    cases hq : grE E n t with
    | true =>
      obtain ⟨l, h1, h2, h3⟩ := ih (t + 1) (by omega) (fun s hs' => by
        rcases Nat.lt_or_ge s t with h | h
        · exact hs s h
        · obtain rfl : s = t := by omega
          exact hq)
      refine ⟨l, start ?_, h2, h3⟩
      have e2 : (turnE E (vsE E n t)).2 = true := hq
      have e1 : (turnE E (vsE E n t)).1 = vsE E n (t + 1) := rfl
      rw [e1, e2]
      refine ev_one (fun k => ?_) h1
      simp only [spec_l04Least.l1]
      rw [if_neg (by simp), if_pos (by trivial), wr_succ t (by omega)]
    | false =>
      have e2 : (turnE E (vsE E n t)).2 = false := hq
      have e1 : (turnE E (vsE E n t)).1 = vsE E n t := quiet_same E n t hq
      have hl := vsE_len E n t
      have hok : okE E n = ((vsE E n t).getD n 0 == 0) := by
        cases hc : ((vsE E n t).getD n 0 == 0) with
        | true => exact okE_of E n g.inE t hq (by simpa using hc)
        | false =>
          have hc' : (vsE E n t).getD n 0 ≠ 0 := by simpa using hc
          rcases Nat.lt_or_ge n t with h | h
          · simp [okE, hs n h]
          · simp only [okE, (quiet_all E n t hq n h).1, decide_eq_false hc', Bool.and_false]
      refine ⟨vsE E n t, start ?_, hl, fun h => ?_⟩
      · rw [e1, e2]
        refine ev_some fun k => ?_
        simp only [spec_l04Least.l1]
        rw [if_neg (by simp), if_neg (by simp), if_pos (by omega), if_pos (by omega), rd_nat, hok]
      · rcases Nat.lt_or_ge n t with h' | h'
        · simp [okE, hs n h'] at h
        · exact (quiet_all E n t hq n h').1.symm
theorem spec_least_ev (n axis : Nat) (hn : n ≤ 24) (ha : axis ≤ 1) (L : List S35) (hL : L.length ≤ 60) (hR : rulesOK (n : Int) L) (idx : List Nat) (hi : idx.length ≤ 60) (hb : ∀ i ∈ idx, i < L.length) :
    ∃ l, Ev (fun k => spec_l04Least.f k (n : Int) L (idx.map fun i : Nat => (i : Int)) (axis : Int)) (l, okE (edgesE n axis L idx) n) ∧ l.length = n + 1 ∧ (okE (edgesE n axis L idx) n = true → l = vsE (edgesE n axis L idx) n n) := by
  obtain ⟨l, h1, h2, h3⟩ := spec_axis (edgesE n axis L idx) n hn (edges_good n axis hn ha L hR idx hi hb) L (n + 2) 0 (by omega) (fun s hs => by omega)
  refine ⟨l, ?_, h2, h3⟩
  unfold spec_l04Least.f
  refine Ev.bind (spec_steps_ev n axis hn ha L hL hR idx hi hb) ?_
  have e : ((n : Int) + 1).toNat = n + 1 := by omega
  rw [wr (n := (n : Int) + 1) (by omega) (by omega)]
  simp only [show (0 : Int) ≤ (n : Int) + 1 from by omega, if_true, e, show n + 1 ≤ 35184372088832 from by omega]
  exact h1
/-! ### The least points -/
def keepsE (n : Nat) (L : List S35) (idx : List Nat) : Bool := okE (edgesE n 0 L idx) n && okE (edgesE n 1 L idx) n
def ptsE (n : Nat) (L : List S35) (idx : List Nat) : List S48 := (List.range n).map fun i => ⟨(vsE (edgesE n 0 L idx) n n).getD i 0, (vsE (edgesE n 1 L idx) n n).getD i 0⟩
theorem spec_keeps_ev (n : Nat) (hn : n ≤ 24) (L : List S35) (hL : L.length ≤ 60) (hR : rulesOK (n : Int) L) (idx : List Nat) (hi : idx.length ≤ 60) (hb : ∀ i ∈ idx, i < L.length) :
    ∃ p, Ev (fun k => spec_l04Keeps.f k (n : Int) L (idx.map fun i : Nat => (i : Int))) (p, keepsE n L idx) ∧ (keepsE n L idx = true → p = ptsE n L idx) := by
  obtain ⟨l0, a1, a2, a3⟩ := spec_least_ev n 0 hn (by omega) L hL hR idx hi hb
  obtain ⟨l1, b1, b2, b3⟩ := spec_least_ev n 1 hn (by omega) L hL hR idx hi hb
  refine ⟨(List.range n).map fun i => ⟨l0.getD i 0, l1.getD i 0⟩, ?_, fun h => ?_⟩
  · unfold spec_l04Keeps.f
    refine Ev.bind a1 ?_
    refine Ev.bind b1 ?_
    have := ev_run0 (r := (((List.range n).map fun i => (⟨l0.getD i 0, l1.getD i 0⟩ : S48)), keepsE n L idx)) (fun i k => spec_l04Keeps.l0 k l0 (okE (edgesE n 0 L idx) n) l1 (okE (edgesE n 1 L idx) n) ((List.range i).map fun i => ⟨l0.getD i 0, l1.getD i 0⟩) (i : Int) (n : Int) L) n (fun i hi k => by
      show spec_l04Keeps.l0 (k + 1) _ _ _ _ _ _ _ _ = spec_l04Keeps.l0 k _ _ _ _ _ _ _ _
      simp only [spec_l04Keeps.l0]
      rw [if_pos (by omega), if_pos (by omega), if_pos (by omega), if_pos (by omega), if_pos (by simp; omega), wr_succ i (by omega), List.range_succ, List.map_append]
      rfl) (ev_some fun k => by
      show spec_l04Keeps.l0 (k + 1) _ _ _ _ _ (n : Int) _ _ = _
      simp only [spec_l04Keeps.l0, keepsE]
      rw [if_neg (by omega)]
      cases okE (edgesE n 0 L idx) n <;> rfl)
    exact this
  · simp only [keepsE, Bool.and_eq_true] at h
    rw [a3 h.1, b3 h.2]; rfl
theorem set_map_range {β : Type} (n i : Nat) (hi : i < n) (f : Nat → β) (b : β) : ((List.range n).map f).set i b = (List.range n).map fun j => if j = i then b else f j := by
  apply List.ext_getElem (by simp)
  intro j h1 h2
  simp only [List.getElem_set, List.getElem_map, List.getElem_range]
  by_cases e : i = j
  · rw [if_pos e, if_pos e.symm]
  · rw [if_neg e, if_neg (fun h => e h.symm)]
theorem rd_pts (n i : Nat) (hi : i < n) (f : Nat → S48) : rd_T48 ((List.range n).map f) (i : Int) = f i := by
  unfold rd_T48; rw [Int.toNat_natCast]; simp [hi]
theorem impl_copy0 (n : Nat) (hn : n ≤ 24) (x1 : List Bool) (f : Nat → S48) (v : List Int) (hv : v.length = n + 1) (L : List S35) {r : List S48 × Bool}
    (h : Ev (fun k => impl_leastOf.l0 k x1 ((List.range n).map fun i => ⟨v.getD i 0, (f i).f1⟩) 1 (n : Int) L) r) : Ev (fun k => impl_leastOf.l3 k x1 ((List.range n).map f) 0 v (n : Int) 0 (n : Int) L) r := by
  have := ev_run0 (r := r) (fun i k => impl_leastOf.l3 k x1 ((List.range n).map fun j => if j < i then ⟨v.getD j 0, (f j).f1⟩ else f j) 0 v (n : Int) (i : Int) (n : Int) L) n (fun i hi k => by
    show impl_leastOf.l3 (k + 1) _ _ _ _ _ _ _ _ = impl_leastOf.l3 k _ _ _ _ _ _ _ _
    simp only [impl_leastOf.l3]
    rw [if_pos (by omega), if_pos trivial, if_pos (by omega), if_pos (by omega), if_pos (by simp; omega), wr_succ i (by omega), Int.toNat_natCast, rd_pts n i hi, set_map_range n i hi, rd_nat]
    congr 1
    refine List.map_congr_left fun j hj => ?_
    rw [if_neg (Nat.lt_irrefl i)]
    by_cases e : j = i
    · rw [if_pos e, if_pos (by omega), e]
    · rw [if_neg e]
      by_cases e2 : j < i
      · rw [if_pos e2, if_pos (by omega)]
      · rw [if_neg e2, if_neg (by omega)]) (ev_one (fun k => by
    show impl_leastOf.l3 (k + 1) _ _ _ _ _ (n : Int) _ _ = impl_leastOf.l0 k x1 ((List.range n).map fun i => ⟨v.getD i 0, (f i).f1⟩) 1 (n : Int) L
    simp only [impl_leastOf.l3]
    rw [if_neg (by omega), wr (n := 0 + 1) (by omega) (by omega)]
    congr 1
    refine List.map_congr_left fun j hj => ?_
    rw [if_pos (by simpa using hj)]) h)
  simpa using this
theorem impl_copy1 (n : Nat) (hn : n ≤ 24) (x1 : List Bool) (f : Nat → S48) (v : List Int) (hv : v.length = n + 1) (L : List S35) {r : List S48 × Bool}
    (h : Ev (fun k => impl_leastOf.l0 k x1 ((List.range n).map fun i => ⟨(f i).f0, v.getD i 0⟩) 2 (n : Int) L) r) : Ev (fun k => impl_leastOf.l3 k x1 ((List.range n).map f) 1 v (n : Int) 0 (n : Int) L) r := by
  have := ev_run0 (r := r) (fun i k => impl_leastOf.l3 k x1 ((List.range n).map fun j => if j < i then ⟨(f j).f0, v.getD j 0⟩ else f j) 1 v (n : Int) (i : Int) (n : Int) L) n (fun i hi k => by
    show impl_leastOf.l3 (k + 1) _ _ _ _ _ _ _ _ = impl_leastOf.l3 k _ _ _ _ _ _ _ _
    simp only [impl_leastOf.l3]
    rw [if_pos (by omega), if_neg (by omega), if_pos (by omega), if_pos (by omega), if_pos (by simp; omega), wr_succ i (by omega), Int.toNat_natCast, rd_pts n i hi, set_map_range n i hi, rd_nat]
    congr 1
    refine List.map_congr_left fun j hj => ?_
    rw [if_neg (Nat.lt_irrefl i)]
    by_cases e : j = i
    · rw [if_pos e, if_pos (by omega), e]
    · rw [if_neg e]
      by_cases e2 : j < i
      · rw [if_pos e2, if_pos (by omega)]
      · rw [if_neg e2, if_neg (by omega)]) (ev_one (fun k => by
    show impl_leastOf.l3 (k + 1) _ _ _ _ _ (n : Int) _ _ = impl_leastOf.l0 k x1 ((List.range n).map fun i => ⟨(f i).f0, v.getD i 0⟩) 2 (n : Int) L
    simp only [impl_leastOf.l3]
    rw [if_neg (by omega), wr (n := 1 + 1) (by omega) (by omega)]
    congr 1
    refine List.map_congr_left fun j hj => ?_
    rw [if_pos (by simpa using hj)]) h)
  simpa using this
theorem impl_least_ev (n : Nat) (hn : n ≤ 24) (L : List S35) (hL : L.length ≤ 60) (hR : rulesOK (n : Int) L) (v : List Bool) (hv : v.length = L.length) :
    Ev (fun k => impl_leastOf.f k (n : Int) L v) (if keepsE n L (idxE v L.length) = true then (ptsE n L (idxE v L.length), true) else ([], false)) := by
  have hi := idxE_len v L.length
  have hb := idxE_lt v L.length
  have g0 := edges_good n 0 hn (by omega) L hR (idxE v L.length) (by omega) hb
  have g1 := edges_good n 1 hn (by omega) L hR (idxE v L.length) (by omega) hb
  have lows0 := impl_lows_ev n 0 hn (by omega) L hL hR v hv
  have lows1 := impl_lows_ev n 1 hn (by omega) L hL hR v hv
  revert g0 g1 lows0 lows1
  unfold keepsE ptsE
  generalize edgesE n 0 L (idxE v L.length) = E0
  generalize edgesE n 1 L (idxE v L.length) = E1
  intro g0 g1 lows0 lows1
  have e : ((n : Int) + 1).toNat = n + 1 := by omega
  have z : List.replicate n z48 = (List.range n).map fun _ => z48 := by
    apply List.ext_getElem (by simp)
    intro i h1 h2; simp
  unfold impl_leastOf.f
  simp only [show (0 : Int) ≤ (n : Int) from by omega, if_true, Int.toNat_natCast, show n ≤ 17592186044416 from by omega, z]
  have first : ∀ (x6 : List S48) (a : Nat) (E : List (Nat × Nat × Int)) {r}, a ≤ 1 → Ev (fun k => impl_lows.f k (n : Int) L (a : Int) v) (E.map lowOf) → Ev (fun k => impl_leastOf.l1 k v x6 (a : Int) (E.map lowOf) (vsE E n 0) ((0 : Nat) : Int) (n : Int) L) r → Ev (fun k => impl_leastOf.l0 k v x6 (a : Int) (n : Int) L) r := by
    intro x6 a E r ha hl h
    refine ev_one (f := fun k => (impl_lows.f k (n : Int) L (a : Int) v).bind fun t145 => impl_leastOf.l1 k v x6 (a : Int) t145 (vsE E n 0) ((0 : Nat) : Int) (n : Int) L) (fun k => ?_) (Ev.bind hl h)
    simp only [impl_leastOf.l0]
    rw [if_pos (by omega), wr (n := (n : Int) + 1) (by omega) (by omega)]
    simp only [show (0 : Int) ≤ (n : Int) + 1 from by omega, if_true, e, show n + 1 ≤ 35184372088832 from by omega]
    rfl
  refine first _ 0 E0 (by omega) lows0 ?_
  cases h0 : okE E0 n with
  | false =>
    rw [Bool.false_and, if_neg (by simp)]
    exact impl_axis_no E0 n hn g0 v _ _ L h0 (n + 2) 0 (by omega) (by simp [vsE])
  | true =>
    refine impl_axis_ok E0 n hn g0 v _ _ L h0 ?_ n 0 (by omega)
    rw [List.length_map, List.length_range]
    refine impl_copy0 n hn v _ _ (vsE_len E0 n n) L ?_
    refine first _ 1 E1 (by omega) lows1 ?_
    cases h1 : okE E1 n with
    | false =>
      rw [Bool.and_false, if_neg (by simp)]
      exact impl_axis_no E1 n hn g1 v _ _ L h1 (n + 2) 0 (by omega) (by simp [vsE])
    | true =>
      rw [Bool.and_true, if_pos (by trivial)]
      refine impl_axis_ok E1 n hn g1 v _ _ L h1 ?_ n 0 (by omega)
      rw [List.length_map, List.length_range]
      refine impl_copy1 n hn v _ _ (vsE_len E1 n n) L ?_
      refine ev_some fun k => ?_
      simp only [impl_leastOf.l0]; rw [if_neg (by omega)]

/-! ### The core -/
def tailE (v : List Bool) (k m : Nat) : List Nat := (List.range' k (m - k)).filter fun (i : Nat) => rdOf false v (i : Int)
theorem idxE_tail (v : List Bool) (k m : Nat) (hk : k ≤ m) (h : ∀ i, i < k → rdOf false v (i : Int) = true) : idxE v m = List.range k ++ tailE v k m := by
  unfold idxE tailE
  have e : List.range m = List.range k ++ List.range' k (m - k) := by
    rw [List.range_eq_range', List.range_eq_range']
    have := List.range'_append (s := 0) (m := k) (n := m - k) (step := 1)
    rw [show 0 + 1 * k = k by omega, show k + (m - k) = m by omega] at this
    exact this.symm
  rw [e, List.filter_append]
  congr 1
  rw [List.filter_eq_self]
  intro i hi
  exact h i (by simpa using hi)
theorem rdOf_set (v : List Bool) (i j : Nat) (b : Bool) (hi : i < v.length) : rdOf false (v.set i b) (j : Int) = if i = j then b else rdOf false v (j : Int) := by
  simp only [rdOf, Int.toNat_natCast, List.getD_eq_getElem?_getD, List.getElem?_set]
  by_cases h : i = j
  · subst h; simp [hi]
  · simp [h]
theorem tailE_set (v : List Bool) (k m : Nat) (hk : k < v.length) (b : Bool) : tailE (v.set k b) (k + 1) m = tailE v (k + 1) m := by
  unfold tailE
  refine List.filter_congr fun i hi => ?_
  rw [rdOf_set v k i b hk, if_neg]
  have := List.mem_range'.1 hi
  obtain ⟨j, hj, rfl⟩ := this
  omega
theorem tailE_at (v : List Bool) (k m : Nat) (hk : k < m) : tailE v k m = (if rdOf false v (k : Int) = true then [k] else []) ++ tailE v (k + 1) m := by
  unfold tailE
  rw [show m - k = (m - (k + 1)) + 1 by omega, List.range'_succ, List.filter_cons]
  split <;> rfl
theorem impl_collect (n m : Nat) (v : List Bool) (hm : m ≤ 60) (hv : v.length = m) : Ev (fun k => impl_SketchSolve.l2 k ([] : List Int) v (m : Int) 0) (([] : List S48), (15 : Int), (idxE v m).map fun i : Nat => (i : Int)) := by
  exact ev_run0 (r := (([] : List S48), (15 : Int), (idxE v m).map fun i : Nat => (i : Int))) (fun i k => impl_SketchSolve.l2 k ((idxE v i).map fun i : Nat => (i : Int)) v (m : Int) (i : Int)) m (fun i hi k => by
    show impl_SketchSolve.l2 (k + 1) _ _ _ _ = impl_SketchSolve.l2 k _ _ _ _
    simp only [impl_SketchSolve.l2]
    have hl := idxE_len v i
    rw [if_pos (by omega), if_pos (by omega), if_pos (by omega), wr_succ i (by omega), idxE_succ]
    by_cases h : rdOf false v (i : Int) = true
    · rw [if_pos h, if_pos h, if_pos (by simp; omega), List.map_append]; rfl
    · rw [if_neg h, if_neg h, List.append_nil]) (ev_some fun k => by
    show impl_SketchSolve.l2 (k + 1) _ _ (m : Int) (m : Int) = _
    simp only [impl_SketchSolve.l2]; rw [if_neg (by omega)])
theorem spec_cut (n : Nat) (L : List S35) (k : Nat) (T : List Nat) (hk : k ≤ 60) (hT : T.length ≤ 60) {r : List S48 × Int × List Int}
    (h : Ev (fun q => (spec_l04Keeps.f q (n : Int) L ((List.range k ++ T).map fun i : Nat => (i : Int))).bind fun bt301 => (if bt301.2 = true then (spec_SketchSolve.l0 q ((List.range (k + 1) ++ T).map fun i : Nat => (i : Int)) ((k : Int) - 1) (n : Int) L) else (spec_SketchSolve.l0 q ((List.range k ++ T).map fun i : Nat => (i : Int)) ((k : Int) - 1) (n : Int) L))) r) :
    Ev (fun q => spec_SketchSolve.l0 q ((List.range (k + 1) ++ T).map fun i : Nat => (i : Int)) (k : Int) (n : Int) L) r := by
  have ht1 : ((List.range (k + 1) ++ T).map fun i : Nat => (i : Int)).take k = (List.range k).map fun i : Nat => (i : Int) := by
    rw [List.range_succ, List.append_assoc, List.map_append, List.take_append_of_le_length (by simp), List.take_of_length_le (by simp)]
  have ht2 : ((List.range (k + 1) ++ T).map fun i : Nat => (i : Int)).drop (k + 1) = T.map fun i : Nat => (i : Int) := by
    rw [List.map_append, List.drop_append_of_le_length (by simp), List.drop_of_length_le (by simp)]; rfl
  have ht3 : k + 1 ≤ ((List.range (k + 1) ++ T).map fun i : Nat => (i : Int)).length := by simp
  have l1 : ((List.range k).map fun i : Nat => (i : Int)).length ≤ 60 := by simpa using hk
  have l2 : (T.map fun i : Nat => (i : Int)).length ≤ 60 := by simpa using hT
  rw [List.map_append (l₁ := List.range k)] at h
  revert ht1 ht2 ht3 l1 l2 h
  generalize (List.range (k + 1) ++ T).map (fun i : Nat => (i : Int)) = X
  generalize (List.range k).map (fun i : Nat => (i : Int)) = A
  generalize T.map (fun i : Nat => (i : Int)) = B
  intro h ht1 ht2 ht3 l1 l2
  refine ev_one (fun q => ?_) h
  have w1 : wrap64 ((k : Int) + 1) = ((k + 1 : Nat) : Int) := wr_succ k (by omega)
  have w2 : wrap64 ((k : Int) - 1) = (k : Int) - 1 := wr (by omega) (by omega)
  rw [spec_SketchSolve.l0, if_pos (show (k : Int) ≥ 0 by omega), Option.bind_some, if_pos (show 0 ≤ (k : Int) by omega), if_pos (show (k : Int) ≤ (X.length : Int) by omega), Int.toNat_natCast, ht1, Option.bind_some,
    if_pos (show ([] : List Int).length + A.length < 17592186044416 by rw [List.length_nil]; omega), Option.bind_some, w1, if_pos (show 0 ≤ ((k + 1 : Nat) : Int) by omega), if_pos (show ((k + 1 : Nat) : Int) ≤ (X.length : Int) by omega), Int.toNat_natCast, ht2, Option.bind_some, List.nil_append,
    if_pos (show A.length + B.length < 17592186044416 by omega), Option.bind_some, w2]
theorem impl_go (n : Nat) (L : List S35) (k : Nat) (v : List Bool) (hk : k < v.length) (hv : v.length ≤ 60) {r : List S48 × Int × List Int}
    (h : Ev (fun q => (impl_leastOf.f q (n : Int) L (v.set k false)).bind fun bt173 => (if bt173.2 = true then (impl_SketchSolve.l1 q ((v.set k false).set k true) ((k : Int) - 1) (n : Int) L) else (impl_SketchSolve.l1 q (v.set k false) ((k : Int) - 1) (n : Int) L))) r) : Ev (fun q => impl_SketchSolve.l1 q v (k : Int) (n : Int) L) r := by
  refine ev_one (fun q => ?_) h
  have w2 : wrap64 ((k : Int) - 1) = (k : Int) - 1 := wr (by omega) (by omega)
  rw [impl_SketchSolve.l1, if_pos (by omega), if_pos (by omega), if_pos (by omega), Option.bind_some, w2, Int.toNat_natCast]
theorem core_ev (n : Nat) (hn : n ≤ 24) (L : List S35) (hL : L.length ≤ 60) (hR : rulesOK (n : Int) L) : ∀ (k : Nat) (v : List Bool), k ≤ L.length → v.length = L.length → (∀ i, i < k → rdOf false v (i : Int) = true) →
    ∃ c : List Int, c.length ≤ 60 ∧ Ev (fun q => impl_SketchSolve.l1 q v ((k : Int) - 1) (n : Int) L) (([] : List S48), (15 : Int), c) ∧ Ev (fun q => spec_SketchSolve.l0 q ((idxE v L.length).map fun i : Nat => (i : Int)) ((k : Int) - 1) (n : Int) L) (([] : List S48), (15 : Int), c) := by
  intro k
  induction k with
  | zero =>
    intro v hk hv ht
    refine ⟨(idxE v L.length).map fun i : Nat => (i : Int), by rw [List.length_map]; have := idxE_len v L.length; omega, ?_, ?_⟩
    · refine ev_one (fun q => ?_) (impl_collect n L.length v hL hv)
      simp only [impl_SketchSolve.l1]; rw [if_neg (by omega), hv]
    · refine ev_some fun q => ?_
      simp only [spec_SketchSolve.l0]; rw [if_neg (by omega)]
  | succ k ih =>
    intro v hk hv ht
    have hk1 : ((k + 1 : Nat) : Int) - 1 = (k : Int) := by omega
    rw [hk1]
    have hd : (v.set k false).length = L.length := by simpa using hv
    have hlt := idxE_lt (v.set k false) L.length
    have hln := idxE_len (v.set k false) L.length
    have hc := impl_least_ev n hn L hL hR (v.set k false) hd
    obtain ⟨p, hs, hp⟩ := spec_keeps_ev n hn L hL hR (idxE (v.set k false) L.length) (by omega) hlt
    -- what is left without k
    have e1 : idxE v L.length = List.range (k + 1) ++ tailE v (k + 1) L.length := idxE_tail v (k + 1) L.length hk ht
    have e2 : idxE (v.set k false) L.length = List.range k ++ tailE v (k + 1) L.length := by
      rw [idxE_tail (v.set k false) k L.length (by omega) (fun i hi => by rw [rdOf_set v k i false (by omega), if_neg (by omega)]; exact ht i (by omega)), tailE_at _ k L.length (by omega), rdOf_set v k k false (by omega), if_pos rfl, if_neg (by simp), tailE_set v k L.length (by omega) false]
      rfl
    have e3 : ∀ b, idxE ((v.set k false).set k b) L.length = if b = true then idxE v L.length else idxE (v.set k false) L.length := by
      intro b
      rw [List.set_set]
      cases b with
      | false => rfl
      | true =>
        rw [if_pos rfl]
        unfold idxE
        refine List.filter_congr fun i hi => ?_
        rw [rdOf_set v k i true (by omega)]
        by_cases h : k = i
        · rw [if_pos h, ← h, ht k (by omega)]
        · rw [if_neg h]
    have hlen1 : (idxE v L.length).length ≤ 60 := by have := idxE_len v L.length; omega
    have hT : (tailE v (k + 1) L.length).length ≤ 60 := by rw [e1] at hlen1; simp at hlen1; omega
    cases hkp : keepsE n L (idxE (v.set k false) L.length) with
    | true =>
      rw [hkp, if_pos rfl] at hc
      rw [hkp] at hs
      obtain ⟨c, c1, c2, c3⟩ := ih ((v.set k false).set k true) (by omega) (by simpa using hd) (fun i hi => by rw [List.set_set, rdOf_set v k i true (by omega), if_neg (by omega)]; exact ht i (by omega))
      rw [e3 true, if_pos rfl] at c3
      exact ⟨c, c1, impl_go n L k v (by omega) (by omega) (Ev.bind hc c2), by rw [e1]; exact spec_cut n L k _ (by omega) hT (by rw [← e1, ← e2]; exact Ev.bind hs c3)⟩
    | false =>
      rw [hkp, if_neg (by simp)] at hc
      rw [hkp] at hs
      obtain ⟨c, c1, c2, c3⟩ := ih (v.set k false) (by omega) hd (fun i hi => by rw [rdOf_set v k i false (by omega), if_neg (by omega)]; exact ht i (by omega))
      exact ⟨c, c1, impl_go n L k v (by omega) (by omega) (Ev.bind hc c2), by rw [e1]; exact spec_cut n L k _ (by omega) hT (by rw [← e1, ← e2]; exact Ev.bind hs c3)⟩
/-! ### Both, whole -/
theorem impl_true (n : Nat) (L : List S35) (m : Nat) (hm : m ≤ 60) {r : List S48 × Int × List Int} (h : Ev (fun k => impl_SketchSolve.l0 k (List.replicate m true) (m : Int) (m : Int) (n : Int) L) r) : Ev (fun k => impl_SketchSolve.l0 k (List.replicate m false) (m : Int) 0 (n : Int) L) r := by
  have := ev_run0 (r := r) (fun i k => impl_SketchSolve.l0 k (List.replicate i true ++ List.replicate (m - i) false) (m : Int) (i : Int) (n : Int) L) m (fun i hi k => by
    show impl_SketchSolve.l0 (k + 1) _ _ _ _ _ = impl_SketchSolve.l0 k _ _ _ _ _
    simp only [impl_SketchSolve.l0]
    rw [if_pos (by omega), if_pos (by omega), if_pos (by simp; omega), wr_succ i (by omega), Int.toNat_natCast]
    congr 1
    rw [List.set_append_right _ _ (by simp), List.length_replicate, Nat.sub_self, show m - i = (m - (i + 1)) + 1 by omega, List.replicate_succ, List.set_cons_zero, List.replicate_succ' (n := i), List.append_assoc]
    rfl) (by simpa using h)
  simpa using this
theorem spec_all (n : Nat) (L : List S35) (hL : L.length ≤ 60) : Ev (fun k => spec_l04All.f k (n : Int) L) ((List.range L.length).map fun i : Nat => (i : Int)) := by
  unfold spec_l04All.f
  exact ev_run0 (r := (List.range L.length).map fun i : Nat => (i : Int)) (fun i k => spec_l04All.l0 k ((List.range i).map fun i : Nat => (i : Int)) (i : Int) (n : Int) L) L.length (fun i hi k => by
    show spec_l04All.l0 (k + 1) _ _ _ _ = spec_l04All.l0 k _ _ _ _
    simp only [spec_l04All.l0]
    rw [if_pos (by omega), if_pos (by simp; omega), wr_succ i (by omega), List.range_succ, List.map_append]
    rfl) (ev_some fun k => by
    show spec_l04All.l0 (k + 1) _ (L.length : Int) _ _ = _
    simp only [spec_l04All.l0]; rw [if_neg (by omega)])
theorem solve_gi (n : Nat) (L : List S35) (h3 : L.length ≤ 60) (a : Ev (fun k => impl_SketchOK.f k (n : Int) L) true) {r : List S48 × Int × List Int} (h : Ev (fun k => (impl_leastOf.f k (n : Int) L (List.replicate L.length true)).bind fun bt168 => (if bt168.2 = true then (some (bt168.1, 0, ([] : List Int))) else (impl_SketchSolve.l1 k (List.replicate L.length true) ((L.length : Int) - 1) (n : Int) L))) r) : Ev (fun k => impl_SketchSolve.f k (n : Int) L) r := by
  unfold impl_SketchSolve.f
  refine Ev.bind a ?_
  simp only [if_true, show (0 : Int) ≤ (L.length : Int) from by omega, Int.toNat_natCast, show L.length ≤ 281474976710656 from by omega, Option.bind_some, List.length_replicate]
  refine impl_true n L L.length h3 (ev_one (fun k => ?_) h)
  simp only [impl_SketchSolve.l0, List.length_replicate]
  rw [if_neg (by omega), wr (n := (L.length : Int) - 1) (by omega) (by omega)]
theorem solve_gs (n : Nat) (L : List S35) (h3 : L.length ≤ 60) (b : Ev (fun k => spec_SketchOK.f k (n : Int) L) true) {r : List S48 × Int × List Int} (h : Ev (fun k => (spec_l04Keeps.f k (n : Int) L ((List.range L.length).map fun i : Nat => (i : Int))).bind fun bt277 => (if bt277.2 = true then (some (bt277.1, 0, (([] : List Int)))) else (spec_SketchSolve.l0 k ((List.range L.length).map fun i : Nat => (i : Int)) ((L.length : Int) - 1) (n : Int) L))) r) : Ev (fun k => spec_SketchSolve.f k (n : Int) L) r := by
  unfold spec_SketchSolve.f
  refine Ev.bind b ?_
  simp only [if_true]
  refine Ev.bind (spec_all n L h3) ?_
  simp only [List.length_map, List.length_range]
  rw [wr (n := (L.length : Int) - 1) (by omega) (by omega)]
  exact h
theorem solve_ev (n : Int) (L : List S35) (hL : L.length ≤ 2000000) : ∃ r : List S48 × Int × List Int, r.1.length ≤ 24 ∧ r.2.2.length ≤ 60 ∧ Ev (fun k => impl_SketchSolve.f k n L) r ∧ Ev (fun k => spec_SketchSolve.f k n L) r := by
  have a := impl_sketch n L hL
  have b := spec_sketch n L hL
  cases hok : sketchOK n L with
  | false =>
    rw [hok] at a b
    refine ⟨([], 1, []), by simp, by simp, ?_, ?_⟩
    · unfold impl_SketchSolve.f; exact Ev.bind a (Ev.now _)
    · unfold spec_SketchSolve.f; exact Ev.bind b (Ev.now _)
  | true =>
    rw [hok] at a b
    obtain ⟨h1, h2, h3, hR⟩ := of_decide_eq_true hok
    obtain ⟨n, rfl⟩ : ∃ m : Nat, n = (m : Int) := ⟨n.toNat, by omega⟩
    have hn : n ≤ 24 := by omega
    have ht : ∀ i, i < L.length → rdOf false (List.replicate L.length true) (i : Int) = true := by
      intro i hi
      simp [rdOf, List.getElem?_replicate, hi]
    have hidx : idxE (List.replicate L.length true) L.length = List.range L.length := by
      unfold idxE; rw [List.filter_eq_self]; intro i hi; exact ht i (by simpa using hi)
    have hc := impl_least_ev n hn L h3 hR (List.replicate L.length true) (by simp)
    rw [hidx] at hc
    obtain ⟨p, hs, hp⟩ := spec_keeps_ev n hn L h3 hR (List.range L.length) (by simp; omega) (fun i hi => by simpa using hi)
    cases hkp : keepsE n L (List.range L.length) with
    | true =>
      rw [hkp, if_pos rfl] at hc
      rw [hkp] at hs
      refine ⟨(ptsE n L (List.range L.length), 0, []), by simp [ptsE]; omega, by simp, solve_gi n L h3 a (Ev.bind hc (Ev.now _)), solve_gs n L h3 b (Ev.bind hs ?_)⟩
      rw [hp hkp]; exact Ev.now _
    | false =>
      rw [hkp, if_neg (by simp)] at hc
      rw [hkp] at hs
      obtain ⟨c, c1, c2, c3⟩ := core_ev n hn L h3 hR L.length (List.replicate L.length true) (Nat.le_refl _) (by simp) ht
      rw [hidx] at c3
      exact ⟨([], 15, c), by simp, c1, solve_gi n L h3 a (Ev.bind hc (by simpa using c2)), solve_gs n L h3 b (Ev.bind hs (by simpa using c3))⟩

def ruleConv (x : S85) : S35 := ⟨x.f0, x.f1, x.f2, x.f3⟩
theorem sz_sketch (n : Int) (l : List S85) (hl : l.length ≤ maxLen) : laws_szSketch.f n l 1048576 = some (if 1048576 - (l.length : Int) < 0 then -1 else 1048576 - (l.length : Int)) := by
  unfold maxLen at hl
  unfold laws_szSketch.f laws_szRuleS.f
  rw [wr (by omega) (by omega)]
  by_cases hh : 1048576 - (l.length : Int) < 0
  · simp only [if_pos hh, Option.bind_some]; rfl
  · simp only [if_neg hh, Option.bind_some]
theorem copy_rules (l : List S85) (h : l.length ≤ 1048576) : Ev (fun k => laws_toRuleS.f k l) (l.map ruleConv) := by
  have := copy_loop laws_toRuleS.l0 ruleConv z85 (fun k x0 x3 i h1 h2 => by
    simp only [laws_toRuleS.l0, laws_toRule.f, Option.bind_some]
    rw [if_pos (by omega), if_pos (by omega), if_pos (by omega)]
    rfl) (fun k x0 x3 => by simp only [laws_toRuleS.l0]; rw [if_neg (by omega)]) l (by omega) (List.replicate l.length z35) (by simp)
  unfold laws_toRuleS.f
  simp only [show (0 : Int) ≤ (l.length : Int) from by omega, if_true, Int.toNat_natCast, show l.length ≤ 8796093022208 from by omega]
  exact this
theorem same_rules (l : List S35) (h : l.length ≤ 1048576) : Ev (fun k => laws_eqRuleS.f k l l) true := by
  unfold laws_eqRuleS.f
  simp only [if_true]
  exact same_loop laws_eqRuleS.l0 l (fun k i hi => by
    simp only [laws_eqRuleS.l0, laws_eqRule.f, if_true, Option.bind_some]
    rw [if_pos (by omega), if_pos (by omega), if_pos (by omega)]) (fun k => by simp only [laws_eqRuleS.l0]; rw [if_neg (by omega)]) (by omega)
theorem copy_sketch (n : Int) (l : List S85) (h : l.length ≤ 1048576) : Ev (fun k => laws_toSketch.f k n l) (n, l.map ruleConv) := by
  unfold laws_toSketch.f
  exact Ev.bind (copy_rules l h) (Ev.now _)
theorem same_sketch (n : Int) (l : List S35) (h : l.length ≤ 1048576) : Ev (fun k => laws_eqSketch.f k n l n l) true := by
  unfold laws_eqSketch.f
  simp only [if_true]
  refine Ev.bind (same_rules l h) ?_
  exact ev_const (by simp)

def mk1 (x : List S35) (i : Nat) (c : Int) : List S35 := x.set i ⟨c, (rd_T35 x (i : Int)).f1, (rd_T35 x (i : Int)).f2, (rd_T35 x (i : Int)).f3⟩
def mk2 (x : List S35) (i : Nat) (c : Int) : List S35 := x.set i ⟨(rd_T35 x (i : Int)).f0, c, (rd_T35 x (i : Int)).f2, (rd_T35 x (i : Int)).f3⟩
def mk3 (x : List S35) (i : Nat) (c : Int) : List S35 := x.set i ⟨(rd_T35 x (i : Int)).f0, (rd_T35 x (i : Int)).f1, c, (rd_T35 x (i : Int)).f3⟩
def mk4 (x : List S35) (i : Nat) (c : Int) : List S35 := x.set i ⟨(rd_T35 x (i : Int)).f0, (rd_T35 x (i : Int)).f1, (rd_T35 x (i : Int)).f2, c⟩
theorem mark_rules (n : Nat) (hn : n ≤ 1048576) : ∀ (m i : Nat) (x : List S35), i + m = n → x.length = n → ∃ x', Ev (fun k => laws_markRuleS.l0 k x (1 + 4 * (i : Int)) (i : Int)) (1 + 4 * (n : Int), x') := by
  intro m
  induction m with
  | zero =>
    intro i x hi hx
    obtain rfl : i = n := by omega
    exact ⟨x, ev_some fun k => by simp only [laws_markRuleS.l0]; rw [if_neg (by omega)]⟩
  | succ m ih =>
    intro i x hi hx
    obtain ⟨x', h⟩ := ih (i + 1) (mk4 (mk3 (mk2 (mk1 x i (1 + 4 * (i : Int))) i (1 + 4 * (i : Int) + 1)) i (1 + 4 * (i : Int) + 1 + 1)) i (1 + 4 * (i : Int) + 1 + 1 + 1)) (by omega) (by simpa [mk1, mk2, mk3, mk4] using hx)
    refine ⟨x', ev_one (fun k => ?_) h⟩
    rw [laws_markRuleS.l0, if_pos (by omega), if_pos (by omega), Option.bind_some, Option.bind_some, Option.bind_some, Int.toNat_natCast]
    rw [wr (n := 1 + 4 * (i : Int) + 1) (by omega) (by omega), wr (n := 1 + 4 * (i : Int) + 1 + 1) (by omega) (by omega), wr (n := 1 + 4 * (i : Int) + 1 + 1 + 1) (by omega) (by omega), wr (n := 1 + 4 * (i : Int) + 1 + 1 + 1 + 1) (by omega) (by omega), wr_succ i (by omega), show 1 + 4 * (i : Int) + 1 + 1 + 1 + 1 = 1 + 4 * ((i + 1 : Nat) : Int) by omega]
    rfl

theorem same_ints (l : List Int) (h : l.length ≤ 1048576) : Ev (fun k => laws_eqIntS.f k l l) true := by
  unfold laws_eqIntS.f
  simp only [if_true]
  exact same_loop laws_eqIntS.l0 l (fun k i hi => by
    simp only [laws_eqIntS.l0, if_true]
    rw [if_pos (by omega), if_pos (by omega), if_pos (by omega)]) (fun k => by simp only [laws_eqIntS.l0]; rw [if_neg (by omega)]) (by omega)
theorem same_pts (l : List S48) (h : l.length ≤ 1048576) : Ev (fun k => laws_eqPointS.f k l l) true := by
  unfold laws_eqPointS.f
  simp only [if_true]
  exact same_loop laws_eqPointS.l0 l (fun k i hi => by
    simp only [laws_eqPointS.l0, laws_eqPoint.f, if_true, Option.bind_some]
    rw [if_pos (by omega), if_pos (by omega), if_pos (by omega)]) (fun k => by simp only [laws_eqPointS.l0]; rw [if_neg (by omega)]) (by omega)

theorem mark_held_pts (n : Nat) (hn : n ≤ 1048576) : ∀ (m i : Nat) (x : List S48), i + m = n → x.length = n → (∀ j, j < i → (rd_T48 x (j : Int)).f0 = 1 + 2 * (j : Int) ∧ (rd_T48 x (j : Int)).f1 = 2 + 2 * (j : Int)) → ∃ x', Ev (fun k => laws_markPointS.l0 k x (1 + 2 * (i : Int)) (i : Int)) (1 + 2 * (n : Int), x') ∧ x'.length = n ∧ ∀ j, j < n → (rd_T48 x' (j : Int)).f0 = 1 + 2 * (j : Int) ∧ (rd_T48 x' (j : Int)).f1 = 2 + 2 * (j : Int) := by
  intro m
  induction m with
  | zero =>
    intro i x hi hx hr
    obtain rfl : i = n := by omega
    exact ⟨x, ev_some fun k => by simp only [laws_markPointS.l0]; rw [if_neg (by omega)], hx, hr⟩
  | succ m ih =>
    intro i x hi hx hr
    have rs : ∀ (l : List S48) (p : S48) (j : Nat), i < l.length → rd_T48 (l.set i p) (j : Int) = if i = j then p else rd_T48 l (j : Int) := by
      intro l p j hl
      simp only [rd_T48, Int.toNat_natCast, List.getD_eq_getElem?_getD, List.getElem?_set]
      by_cases h : i = j
      · subst h; simp [hl]
      · simp [h]
    have e1 : (x.set i (⟨1 + 2 * (i : Int), (rd_T48 x (i : Int)).f1⟩ : S48)).set i (⟨(rd_T48 (x.set i (⟨1 + 2 * (i : Int), (rd_T48 x (i : Int)).f1⟩ : S48)) (i : Int)).f0, 1 + 2 * (i : Int) + 1⟩ : S48) = x.set i (⟨1 + 2 * (i : Int), 1 + 2 * (i : Int) + 1⟩ : S48) := by
      rw [rs x _ i (by omega), if_pos rfl, List.set_set]
    obtain ⟨x', h, h1, h2⟩ := ih (i + 1) (x.set i (⟨1 + 2 * (i : Int), 1 + 2 * (i : Int) + 1⟩ : S48)) (by omega) (by simpa using hx) (fun j hj => by
      rw [rs x _ j (by omega)]
      by_cases e : i = j
      · rw [if_pos e]; subst e; exact ⟨rfl, by show 1 + 2 * (i : Int) + 1 = _; omega⟩
      · rw [if_neg e]; exact hr j (by omega))
    refine ⟨x', ev_one (fun k => ?_) h, h1, h2⟩
    simp only [laws_markPointS.l0]
    rw [if_pos (by omega), if_pos (by omega)]
    simp only [Option.bind_some, Int.toNat_natCast]
    rw [wr (n := 1 + 2 * (i : Int) + 1) (by omega) (by omega), e1, wr (by omega) (by omega), wr_succ i (by omega), show 1 + 2 * (i : Int) + 1 + 1 = 1 + 2 * ((i + 1 : Nat) : Int) by omega]
theorem held_pts (x : List S48) (hn : x.length ≤ 1048576) (h : ∀ j, j < x.length → (rd_T48 x (j : Int)).f0 = 1 + 2 * (j : Int) ∧ (rd_T48 x (j : Int)).f1 = 2 + 2 * (j : Int)) : Ev (fun k => laws_heldPointS.f k x 1) (1 + 2 * (x.length : Int)) := by
  have := ev_run0 (r := 1 + 2 * (x.length : Int)) (fun i k => laws_heldPointS.l0 k x (1 + 2 * (i : Int)) (i : Int)) x.length (fun i hi k => by
    show laws_heldPointS.l0 (k + 1) x (1 + 2 * (i : Int)) (i : Int) = laws_heldPointS.l0 k x (1 + 2 * ((i + 1 : Nat) : Int)) ((i + 1 : Nat) : Int)
    have hh := h i hi
    simp only [laws_heldPointS.l0]
    rw [if_pos (by omega), if_pos (by omega), if_pos hh.1, wr (n := 1 + 2 * (i : Int) + 1) (by omega) (by omega), if_pos (by rw [hh.2]; omega), wr (by omega) (by omega), wr_succ i (by omega), show 1 + 2 * (i : Int) + 1 + 1 = 1 + 2 * ((i + 1 : Nat) : Int) by omega]) (ev_some fun k => by
    show laws_heldPointS.l0 (k + 1) x (1 + 2 * (x.length : Int)) (x.length : Int) = _
    simp only [laws_heldPointS.l0]; rw [if_neg (by omega)])
  simpa [laws_heldPointS.f] using this

theorem mark_ints_at (n : Nat) (hn : n ≤ 1048576) (c : Int) (hc : 0 ≤ c ∧ c ≤ 1000000000) : ∀ (m i : Nat) (x : List Int), i + m = n → x.length = n → (∀ j, j < i → rd x (j : Int) = c + (j : Int)) → ∃ x', Ev (fun k => laws_markIntS.l0 k x (c + (i : Int)) (i : Int)) (c + (n : Int), x') ∧ x'.length = n ∧ ∀ j, j < n → rd x' (j : Int) = c + (j : Int) := by
  intro m
  induction m with
  | zero =>
    intro i x hi hx hr
    obtain rfl : i = n := by omega
    exact ⟨x, ev_some fun k => by simp only [laws_markIntS.l0]; rw [if_neg (by omega)], hx, hr⟩
  | succ m ih =>
    intro i x hi hx hr
    obtain ⟨x', h, h1, h2⟩ := ih (i + 1) (x.set i (c + (i : Int))) (by omega) (by simpa using hx) (fun j hj => by
      rw [rd_lt _ _ (by simp; omega), List.getElem_set]
      split
      · rename_i e; rw [e]
      · rw [← rd_lt _ _ (by omega)]; exact hr j (by omega))
    refine ⟨x', ev_one (fun k => ?_) h, h1, h2⟩
    simp only [laws_markIntS.l0]
    rw [if_pos (by omega), if_pos (by omega)]
    simp only [Int.toNat_natCast]
    rw [wr (n := c + (i : Int) + 1) (by omega) (by omega), wr_succ i (by omega), show c + (i : Int) + 1 = c + ((i + 1 : Nat) : Int) by omega]
theorem held_ints_at (x : List Int) (hn : x.length ≤ 1048576) (c : Int) (hc : 0 ≤ c ∧ c ≤ 1000000000) (h : ∀ j, j < x.length → rd x (j : Int) = c + (j : Int)) : Ev (fun k => laws_heldIntS.f k x c) (c + (x.length : Int)) := by
  have := ev_run0 (r := c + (x.length : Int)) (fun i k => laws_heldIntS.l0 k x (c + (i : Int)) (i : Int)) x.length (fun i hi k => by
    show laws_heldIntS.l0 (k + 1) x (c + (i : Int)) (i : Int) = laws_heldIntS.l0 k x (c + ((i + 1 : Nat) : Int)) ((i + 1 : Nat) : Int)
    simp only [laws_heldIntS.l0]
    rw [if_pos (by omega), if_pos (by omega), if_pos (h i hi), wr (n := c + (i : Int) + 1) (by omega) (by omega), wr_succ i (by omega), show c + (i : Int) + 1 = c + ((i + 1 : Nat) : Int) by omega]) (ev_some fun k => by
    show laws_heldIntS.l0 (k + 1) x (c + (x.length : Int)) (x.length : Int) = _
    simp only [laws_heldIntS.l0]; rw [if_neg (by omega)])
  simpa [laws_heldIntS.f] using this

theorem move_ev (n : Int) (L : List S35) (hL : L.length ≤ 1048576) (p x y : Int) : ∃ r : List S48 × Int × List Int, r.1.length ≤ 24 ∧ r.2.2.length ≤ 60 ∧ Ev (fun k => impl_SketchMove.f k n L p x y) r ∧ Ev (fun k => spec_SketchMove.f k n L p x y) r := by
  have h2 : (L ++ [(⟨1, p, 0, x⟩ : S35), ⟨2, p, 0, y⟩]).length = L.length + 2 := by simp
  obtain ⟨r, r1, r2, a, b⟩ : ∃ r : List S48 × Int × List Int, r.1.length ≤ 24 ∧ r.2.2.length ≤ 60 ∧ Ev (fun k => impl_SketchSolve.f k n (L ++ [(⟨1, p, 0, x⟩ : S35), ⟨2, p, 0, y⟩])) r ∧ Ev (fun k => spec_SketchSolve.f k n (L ++ [(⟨1, p, 0, x⟩ : S35), ⟨2, p, 0, y⟩])) r := by
    exact solve_ev n _ (by omega)
  refine ⟨r, r1, r2, ?_, ?_⟩
  · unfold impl_SketchMove.f
    rw [List.length_nil, List.nil_append]
    simp only [show 0 + L.length < 4398046511104 from by omega, if_true, Option.bind_some, List.length_cons, List.length_nil, show L.length + (0 + 1 + 1) < 4398046511104 from by omega]
    exact Ev.bind a (Ev.now _)
  · unfold spec_SketchMove.f
    simp only [Option.bind_some, List.length_nil, List.nil_append, show 0 + L.length < 4398046511104 from by omega, if_true, List.length_cons, show L.length + (0 + 1 + 1) < 4398046511104 from by omega]
    exact Ev.bind b (Ev.now _)
theorem FnExactSketchMove : laws_FnExactSketchMove.Plain := by
  intro n l q x y _ hl _ _ _
  refine Ev.rounds ?_
  have hl1 := hl.1
  unfold maxLen at hl1
  unfold laws_FnExactSketchMove.f
  rw [sz_sketch n l hl.1]
  simp only [Option.bind_some]
  by_cases hs : 1048576 - (l.length : Int) < 0
  · simp only [if_pos hs]; exact ev_const (by simp)
  simp only [if_neg hs]
  have hc := copy_sketch n l (by omega)
  obtain ⟨⟨p, e, c⟩, p1, c1, ip, sp⟩ := move_ev n (l.map ruleConv) (by simp; omega) q x y
  have p1 : p.length ≤ 24 := p1
  have c1 : c.length ≤ 60 := c1
  have so := same_ints c (by omega)
  have sq := same_pts p (by omega)
  obtain ⟨l', hml⟩ := mark_rules (l.map ruleConv).length (by simp; omega) (l.map ruleConv).length 0 (l.map ruleConv) (by omega) rfl
  have hml : Ev (fun k => laws_markSketch.f k n (l.map ruleConv) 1) (1 + 4 * ((l.map ruleConv).length : Int), l') := by
    unfold laws_markSketch.f
    have : Ev (fun k => laws_markRuleS.f k (l.map ruleConv) 1) (1 + 4 * ((l.map ruleConv).length : Int), l') := hml
    exact Ev.bind this (Ev.now _)
  obtain ⟨p', hp, hp1, hp2⟩ := mark_held_pts p.length (by omega) p.length 0 p (by omega) rfl (fun j hj => by omega)
  have hph := held_pts p' (by omega) (by rw [hp1]; exact hp2)
  rw [hp1] at hph
  have hp : Ev (fun k => laws_markPointS.f k p 1) (1 + 2 * (p.length : Int), p') := hp
  obtain ⟨c', hm, hm1, hm2⟩ := mark_ints_at c.length (by omega) (1 + 2 * (p.length : Int)) (by omega) c.length 0 c (by omega) rfl (fun j hj => by omega)
  have hmh := held_ints_at c' (by omega) (1 + 2 * (p.length : Int)) (by omega) (by rw [hm1]; exact hm2)
  rw [hm1] at hmh
  have hm : Ev (fun k => laws_markIntS.f k c (1 + 2 * (p.length : Int))) (1 + 2 * (p.length : Int) + (c.length : Int), c') := by
    unfold laws_markIntS.f; simpa using hm
  refine Ev.bind hc ?_
  simp only [laws_toPoint.f, Option.bind_some]
  refine Ev.bind sp ?_
  refine Ev.bind hc ?_
  refine Ev.bind ip ?_
  refine Ev.bind sq ?_
  simp only [if_true]
  refine Ev.bind so ?_
  have j2 : Ev (fun k => laws_FnExactSketchMove.j2 k p' c' (1 + 2 * (p.length : Int) + (c.length : Int)) false) true := by
    refine ev_one (f := fun k => (laws_heldPointS.f k p' 1).bind fun t411 => (if t411 < 0 then (some false) else ((laws_heldIntS.f k c' t411).bind fun t412 => (if t412 < 0 then (some false) else (if t412 = 1 + 2 * (p.length : Int) + (c.length : Int) then (some true) else (some false)))))) (fun k => by simp only [laws_FnExactSketchMove.j2, Bool.false_eq_true, if_false]) ?_
    refine Ev.bind hph ?_
    simp only [if_neg (show ¬ 1 + 2 * (p.length : Int) < 0 by omega)]
    refine Ev.bind hmh ?_
    simp only [if_neg (show ¬ 1 + 2 * (p.length : Int) + (c.length : Int) < 0 by omega), if_true]
    exact Ev.now _
  have j1 : Ev (fun k => laws_FnExactSketchMove.j1 k q p e c p c false n l x y) true := by
    refine ev_one (f := fun k => (laws_markPointS.f k p 1).bind fun bt392 => ((laws_markIntS.f k c bt392.1).bind fun bt394 => ((laws_heldPointS.f k bt392.2 1).bind fun t396 => (if t396 < 0 then (some false) else ((laws_heldIntS.f k bt394.2 t396).bind fun t397 => (if t397 < 0 then (some false) else (if t397 = bt394.1 then ((laws_toSketch.f k n l).bind fun bt398 => ((laws_toPoint.f x y).bind fun bt450 => ((impl_SketchMove.f k bt398.1 bt398.2 q bt450.1 bt450.2).bind fun bt402 => ((laws_eqPointS.f k bt402.1 p).bind fun t409 => (if t409 = true then (if bt402.2.1 = e then ((laws_eqIntS.f k bt402.2.2 c).bind fun t410 => (laws_FnExactSketchMove.j2 k bt392.2 bt394.2 bt394.1 (!t410))) else (laws_FnExactSketchMove.j2 k bt392.2 bt394.2 bt394.1 true)) else (laws_FnExactSketchMove.j2 k bt392.2 bt394.2 bt394.1 true)))))) else (some false)))))))) (fun k => by simp only [laws_FnExactSketchMove.j1, Bool.false_eq_true, if_false]) ?_
    refine Ev.bind hp ?_
    refine Ev.bind hm ?_
    refine Ev.bind hph ?_
    simp only [if_neg (show ¬ 1 + 2 * (p.length : Int) < 0 by omega)]
    refine Ev.bind hmh ?_
    simp only [if_neg (show ¬ 1 + 2 * (p.length : Int) + (c.length : Int) < 0 by omega), if_true]
    refine Ev.bind hc ?_
    simp only [laws_toPoint.f, Option.bind_some]
    refine Ev.bind ip ?_
    refine Ev.bind sq ?_
    simp only [if_true]
    refine Ev.bind so ?_
    exact j2
  refine ev_one (f := fun k => (laws_toSketch.f k n l).bind fun bt383 => ((laws_eqSketch.f k n (l.map ruleConv) bt383.1 bt383.2).bind fun t387 => (if t387 = true then ((laws_markSketch.f k n (l.map ruleConv) 1).bind fun bt388 => (if bt388.1 < 0 then (laws_FnExactSketchMove.j1 k q p e c p c true n l x y) else ((laws_eqPointS.f k p p).bind fun t390 => (if t390 = true then (if e = e then ((laws_eqIntS.f k c c).bind fun t391 => (laws_FnExactSketchMove.j1 k q p e c p c (!t391) n l x y)) else (laws_FnExactSketchMove.j1 k q p e c p c true n l x y)) else (laws_FnExactSketchMove.j1 k q p e c p c true n l x y))))) else (some false)))) (fun k => by simp only [laws_FnExactSketchMove.j0, Bool.not_true, Bool.false_eq_true, if_false]) ?_
  refine Ev.bind hc ?_
  refine Ev.bind (same_sketch n (l.map ruleConv) (by simp; omega)) ?_
  simp only [if_true]
  refine Ev.bind hml ?_
  simp only [if_neg (show ¬ 1 + 4 * ((l.map ruleConv).length : Int) < 0 by omega)]
  refine Ev.bind sq ?_
  simp only [if_true]
  refine Ev.bind so ?_
  exact j1
end Go.Proofs.Ytnbkdfnlggmopaa.Pure
