/- FnExactSketchOK over numbers and lists alone: the program's SketchOK and the reference's answer alike at every sketch, which reads as before. -/
import Derived.Test.YtnbkdfnlggmopaaSFnExactSketchOK
import Derived.Test.YtnbkdfnlggmopaaLib
namespace Go.Proofs.Ytnbkdfnlggmopaa.Pure
open Go.RowKit Go.Proofs.Ytnbkdfnlggmopaa.PFnExactSketchOK Go.Proofs.YtnbkdfnlggmopaaW.PrintWords Go.Proofs.YtnbkdfnlggmopaaW.PrintLast Go.Proofs.Ytnbkdfnlggmopaa.Lib
set_option linter.unusedVariables false
set_option linter.unusedSimpArgs false

def ruleOK (n f0 f1 f2 f3 : Int) : Bool := decide (1 ≤ f0 ∧ f0 ≤ 9 ∧ 0 ≤ f1 ∧ f1 < n ∧ (if 3 ≤ f0 then 0 ≤ f2 ∧ f2 < n else f2 = 0) ∧ (if f0 ≤ 6 then -100000 ≤ f3 ∧ f3 ≤ 100000 else f3 = 0))
def rulesOK (n : Int) (L : List S35) : Prop := ∀ i, i < L.length → ruleOK n (rd_T35 L (i : Int)).f0 (rd_T35 L (i : Int)).f1 (rd_T35 L (i : Int)).f2 (rd_T35 L (i : Int)).f3 = true
instance (n : Int) (L : List S35) : Decidable (rulesOK n L) := by unfold rulesOK; exact inferInstance
def sketchOK (n : Int) (L : List S35) : Bool := decide (1 ≤ n ∧ n ≤ 24 ∧ L.length ≤ 60 ∧ rulesOK n L)
theorem spec_sketch (n : Int) (L : List S35) (hL : L.length ≤ 1048576) : Ev (fun k => spec_SketchOK.f k n L) (sketchOK n L) := by
  have stop : sketchOK n L = false → Ev (fun k => spec_SketchOK.j0 k true n L) (sketchOK n L) := fun h => by
    rw [h]; exact ev_some fun k => by simp only [spec_SketchOK.j0, if_true]
  unfold spec_SketchOK.f
  by_cases h1 : n < 1
  · simp only [if_pos h1]; exact stop (by simp only [sketchOK, decide_eq_false_iff_not]; omega)
  · simp only [if_neg h1]
    by_cases h2 : n > 24
    · simp only [if_pos h2]; exact stop (by simp only [sketchOK, decide_eq_false_iff_not]; omega)
    · simp only [if_neg h2]
      by_cases h3 : (L.length : Int) > 60
      · simp only [h3, decide_true]; exact stop (by simp only [sketchOK, decide_eq_false_iff_not]; omega)
      · simp only [h3, decide_false]
        refine ev_one (f := fun k => spec_SketchOK.l0 k 0 n L) (fun k => by simp only [spec_SketchOK.j0, Bool.false_eq_true, if_false]) ?_
        have key := all_steps (r := true) (bad := false) (fun i k => spec_SketchOK.l0 k (i : Int) n L) L.length (fun i => ruleOK n (rd_T35 L (i : Int)).f0 (rd_T35 L (i : Int)).f1 (rd_T35 L (i : Int)).f2 (rd_T35 L (i : Int)).f3) (fun i hi hp q hq => by
            show Ev (fun k => spec_SketchOK.l0 k (i : Int) n L) q
            have hq' : Ev (fun k => spec_SketchOK.l0 k (wrap64 ((i : Int) + 1)) n L) q := by rw [wr_succ i (by omega)]; exact hq
            revert hp
            generalize e0 : (rd_T35 L (i : Int)).f0 = f0
            generalize e1 : (rd_T35 L (i : Int)).f1 = f1
            generalize e2 : (rd_T35 L (i : Int)).f2 = f2
            generalize e3 : (rd_T35 L (i : Int)).f3 = f3
            intro hp
            simp only [ruleOK, decide_eq_true_eq] at hp
            obtain ⟨p1, p2, p3, p4, p5, p6⟩ := hp
            refine ev_one (f := fun k => spec_SketchOK.j2 k (i : Int) false n L f0 f1 f2 f3) (fun k => by
              simp only [spec_SketchOK.l0, e0, e1, e2, e3]
              rw [if_pos (by omega), if_pos (by omega), if_neg (by omega), if_neg (by omega), if_neg (by omega), decide_eq_false (by omega)]) ?_
            refine ev_one (f := fun k => spec_SketchOK.j3 k (i : Int) (decide (f0 ≤ 6)) false n L f0 f1 f2 f3) (fun k => by
              simp only [spec_SketchOK.j2, spec_l04Wants.f, Option.bind_some, Bool.false_eq_true, if_false]
              by_cases g : 3 ≤ f0
              · rw [if_pos g] at p5
                have : decide (f0 ≥ 3) = true := decide_eq_true g
                rw [if_pos this, if_neg (by omega), if_neg (by omega)]
              · rw [if_neg g] at p5
                have : ¬ decide (f0 ≥ 3) = true := by simpa using g
                rw [if_neg this, p5]; rfl) ?_
            refine ev_one (f := fun k => spec_SketchOK.l0 k (wrap64 ((i : Int) + 1)) n L) (fun k => by
              simp only [spec_SketchOK.j3, Bool.false_eq_true, if_false, decide_eq_true_eq]
              by_cases g : f0 ≤ 6
              · rw [if_pos g] at p6
                rw [if_pos g, if_neg (by omega), if_neg (by omega)]
              · rw [if_neg g] at p6
                rw [if_neg g, if_pos p6]) hq')
          (fun i hi hp => by
            show Ev (fun k => spec_SketchOK.l0 k (i : Int) n L) false
            revert hp
            generalize e0 : (rd_T35 L (i : Int)).f0 = f0
            generalize e1 : (rd_T35 L (i : Int)).f1 = f1
            generalize e2 : (rd_T35 L (i : Int)).f2 = f2
            generalize e3 : (rd_T35 L (i : Int)).f3 = f3
            intro hp
            simp only [ruleOK, decide_eq_false_iff_not] at hp
            by_cases hb : 1 ≤ f0 ∧ f0 ≤ 9 ∧ 0 ≤ f1 ∧ f1 < n
            · refine ev_one (f := fun k => spec_SketchOK.j2 k (i : Int) false n L f0 f1 f2 f3) (fun k => by
                simp only [spec_SketchOK.l0, e0, e1, e2, e3]
                rw [if_pos (by omega), if_pos (by omega), if_neg (by omega), if_neg (by omega), if_neg (by omega), decide_eq_false (by omega)]) ?_
              refine ev_one (f := fun k => spec_SketchOK.j3 k (i : Int) (decide (f0 ≤ 6)) (!decide (if 3 ≤ f0 then 0 ≤ f2 ∧ f2 < n else f2 = 0)) n L f0 f1 f2 f3) (fun k => by
                simp only [spec_SketchOK.j2, spec_l04Wants.f, Option.bind_some, Bool.false_eq_true, if_false]
                by_cases g : 3 ≤ f0
                · have : decide (f0 ≥ 3) = true := decide_eq_true g
                  rw [if_pos this]
                  simp only [if_pos g]
                  by_cases g1 : f2 < 0
                  · rw [if_pos g1, show decide (0 ≤ f2 ∧ f2 < n) = false from decide_eq_false (by omega)]; rfl
                  · rw [if_neg g1]
                    by_cases g2 : f2 ≥ n
                    · rw [if_pos g2, show decide (0 ≤ f2 ∧ f2 < n) = false from decide_eq_false (by omega)]; rfl
                    · rw [if_neg g2, show decide (0 ≤ f2 ∧ f2 < n) = true from decide_eq_true (by omega)]; rfl
                · have : ¬ decide (f0 ≥ 3) = true := by simpa using g
                  rw [if_neg this]
                  simp only [if_neg g]
                  congr 1) ?_
              refine ev_some fun k => ?_
              simp only [spec_SketchOK.j3]
              by_cases g5 : (if 3 ≤ f0 then 0 ≤ f2 ∧ f2 < n else f2 = 0)
              · rw [decide_eq_true g5]
                simp only [Bool.not_true, Bool.false_eq_true, if_false, decide_eq_true_eq]
                have g6 : ¬ (if f0 ≤ 6 then -100000 ≤ f3 ∧ f3 ≤ 100000 else f3 = 0) := fun z => hp ⟨hb.1, hb.2.1, hb.2.2.1, hb.2.2.2, g5, z⟩
                by_cases g : f0 ≤ 6
                · rw [if_pos g] at g6
                  rw [if_pos g]
                  by_cases q1 : f3 < -100000
                  · rw [if_pos q1]
                  · rw [if_neg q1, if_pos (by omega)]
                · rw [if_neg g] at g6
                  rw [if_neg g, if_neg g6]
              · rw [decide_eq_false g5]; rfl
            · have hs : Ev (fun k => spec_SketchOK.j2 k (i : Int) true n L f0 f1 f2 f3) false := ev_some fun k => by simp only [spec_SketchOK.j2, if_true]
              refine ev_one (f := fun k => spec_SketchOK.j2 k (i : Int) true n L f0 f1 f2 f3) (fun k => by
                simp only [spec_SketchOK.l0, e0, e1, e2, e3]
                rw [if_pos (by omega), if_pos (by omega)]
                by_cases g1 : f0 < 1
                · rw [if_pos g1]
                · rw [if_neg g1]
                  by_cases g2 : f0 > 9
                  · rw [if_pos g2]
                  · rw [if_neg g2]
                    by_cases g3 : f1 < 0
                    · rw [if_pos g3]
                    · rw [if_neg g3, decide_eq_true (by omega)]) hs)
          (fun _ => ev_some fun k => by
            show spec_SketchOK.l0 (k + 1) (L.length : Int) n L = _
            simp only [spec_SketchOK.l0]; rw [if_neg (by omega)])
        have e : sketchOK n L = if rulesOK n L then true else false := by
          unfold sketchOK
          by_cases hc : rulesOK n L
          · rw [if_pos hc, decide_eq_true_eq]; exact ⟨by omega, by omega, by omega, hc⟩
          · rw [if_neg hc, decide_eq_false_iff_not]; exact fun h => hc h.2.2.2
        rw [e]; exact key

theorem impl_sketch (n : Int) (L : List S35) (hL : L.length ≤ 1048576) : Ev (fun k => impl_SketchOK.f k n L) (sketchOK n L) := by
  have stop : sketchOK n L = false → Ev (fun k => impl_SketchOK.j0 k true n L) (sketchOK n L) := fun h => by
    rw [h]; exact ev_some fun k => by simp only [impl_SketchOK.j0, if_true]
  unfold impl_SketchOK.f
  by_cases h1 : n < 1
  · simp only [if_pos h1]; exact stop (by simp only [sketchOK, decide_eq_false_iff_not]; omega)
  · simp only [if_neg h1]
    by_cases h2 : n > 24
    · simp only [if_pos h2]; exact stop (by simp only [sketchOK, decide_eq_false_iff_not]; omega)
    · simp only [if_neg h2]
      by_cases h3 : (L.length : Int) > 60
      · simp only [h3, decide_true]; exact stop (by simp only [sketchOK, decide_eq_false_iff_not]; omega)
      · simp only [h3, decide_false]
        refine ev_one (f := fun k => impl_SketchOK.l0 k L (L.length : Int) 0 n L) (fun k => by simp only [impl_SketchOK.j0, Bool.false_eq_true, if_false]) ?_
        have key := all_steps (r := true) (bad := false) (fun i k => impl_SketchOK.l0 k L (L.length : Int) (i : Int) n L) L.length (fun i => ruleOK n (rd_T35 L (i : Int)).f0 (rd_T35 L (i : Int)).f1 (rd_T35 L (i : Int)).f2 (rd_T35 L (i : Int)).f3) (fun i hi hp q hq => by
            show Ev (fun k => impl_SketchOK.l0 k L (L.length : Int) (i : Int) n L) q
            have hq' : Ev (fun k => impl_SketchOK.l0 k L (L.length : Int) (wrap64 ((i : Int) + 1)) n L) q := by rw [wr_succ i (by omega)]; exact hq
            revert hp
            generalize e0 : (rd_T35 L (i : Int)).f0 = f0
            generalize e1 : (rd_T35 L (i : Int)).f1 = f1
            generalize e2 : (rd_T35 L (i : Int)).f2 = f2
            generalize e3 : (rd_T35 L (i : Int)).f3 = f3
            intro hp
            simp only [ruleOK, decide_eq_true_eq] at hp
            obtain ⟨p1, p2, p3, p4, p5, p6⟩ := hp
            refine ev_one (f := fun k => impl_SketchOK.j2 k L (L.length : Int) (i : Int) false n L f0 f1 f2 f3) (fun k => by
              simp only [impl_SketchOK.l0, e0, e1, e2, e3]
              rw [if_pos (by omega), if_pos (by omega), if_pos (by omega), if_neg (by omega), if_neg (by omega), if_neg (by omega), decide_eq_false (by omega)]) ?_
            refine ev_one (f := fun k => impl_SketchOK.j3 k L (L.length : Int) (i : Int) false n L f0 f1 f2 f3) (fun k => by
              simp only [impl_SketchOK.j2, Bool.false_eq_true, if_false]
              by_cases g : 3 ≤ f0
              · rw [if_pos g] at p5
                rw [if_neg (by omega), if_neg (by omega), decide_eq_false (by omega)]
              · rw [if_neg g] at p5
                rw [if_pos (by omega), if_pos p5, if_neg (by omega), decide_eq_false (by omega)]) ?_
            refine ev_one (f := fun k => impl_SketchOK.l0 k L (L.length : Int) (wrap64 ((i : Int) + 1)) n L) (fun k => by
              simp only [impl_SketchOK.j3, Bool.false_eq_true, if_false]
              by_cases g : f0 ≤ 6
              · rw [if_pos g] at p6
                rw [if_neg (by omega), if_neg (by omega), if_neg (by omega)]
              · rw [if_neg g] at p6
                rw [if_pos (by omega), if_pos p6, if_neg (by omega), if_neg (by omega)]) hq')
          (fun i hi hp => by
            show Ev (fun k => impl_SketchOK.l0 k L (L.length : Int) (i : Int) n L) false
            revert hp
            generalize e0 : (rd_T35 L (i : Int)).f0 = f0
            generalize e1 : (rd_T35 L (i : Int)).f1 = f1
            generalize e2 : (rd_T35 L (i : Int)).f2 = f2
            generalize e3 : (rd_T35 L (i : Int)).f3 = f3
            intro hp
            simp only [ruleOK, decide_eq_false_iff_not] at hp
            by_cases hb : 1 ≤ f0 ∧ f0 ≤ 9 ∧ 0 ≤ f1 ∧ f1 < n
            · refine ev_one (f := fun k => impl_SketchOK.j2 k L (L.length : Int) (i : Int) false n L f0 f1 f2 f3) (fun k => by
                simp only [impl_SketchOK.l0, e0, e1, e2, e3]
                rw [if_pos (by omega), if_pos (by omega), if_pos (by omega), if_neg (by omega), if_neg (by omega), if_neg (by omega), decide_eq_false (by omega)]) ?_
              refine ev_one (f := fun k => impl_SketchOK.j3 k L (L.length : Int) (i : Int) (!decide (if 3 ≤ f0 then 0 ≤ f2 ∧ f2 < n else f2 = 0)) n L f0 f1 f2 f3) (fun k => by
                simp only [impl_SketchOK.j2, Bool.false_eq_true, if_false]
                by_cases g : 3 ≤ f0
                · simp only [if_pos g]
                  rw [if_neg (by omega)]
                  by_cases g1 : f2 < 0
                  · rw [if_pos g1, show decide (0 ≤ f2 ∧ f2 < n) = false from decide_eq_false (by omega)]; rfl
                  · rw [if_neg g1]; congr 1; rw [Bool.eq_iff_iff]; simp; omega
                · simp only [if_neg g]
                  rw [if_pos (by omega)]
                  by_cases g0 : f2 = 0
                  · rw [if_pos g0, if_neg (by omega), decide_eq_false (by omega), decide_eq_true g0]; rfl
                  · rw [if_neg g0, decide_eq_false g0]; rfl) ?_
              refine ev_some fun k => ?_
              simp only [impl_SketchOK.j3]
              by_cases g5 : (if 3 ≤ f0 then 0 ≤ f2 ∧ f2 < n else f2 = 0)
              · rw [decide_eq_true g5]
                simp only [Bool.not_true, Bool.false_eq_true, if_false]
                have g6 : ¬ (if f0 ≤ 6 then -100000 ≤ f3 ∧ f3 ≤ 100000 else f3 = 0) := fun z => hp ⟨hb.1, hb.2.1, hb.2.2.1, hb.2.2.2, g5, z⟩
                by_cases g : f0 ≤ 6
                · rw [if_pos g] at g6
                  rw [if_neg (by omega)]
                  by_cases q1 : f3 < -100000
                  · rw [if_pos q1]
                  · rw [if_neg q1, if_pos (by omega)]
                · rw [if_neg g] at g6
                  rw [if_pos (by omega), if_neg g6]
              · rw [decide_eq_false g5]; rfl
            · have hs : Ev (fun k => impl_SketchOK.j2 k L (L.length : Int) (i : Int) true n L f0 f1 f2 f3) false := ev_some fun k => by simp only [impl_SketchOK.j2, if_true]
              refine ev_one (f := fun k => impl_SketchOK.j2 k L (L.length : Int) (i : Int) true n L f0 f1 f2 f3) (fun k => by
                simp only [impl_SketchOK.l0, e0, e1, e2, e3]
                rw [if_pos (by omega), if_pos (by omega), if_pos (by omega)]
                by_cases g1 : f0 < 1
                · rw [if_pos g1]
                · rw [if_neg g1]
                  by_cases g2 : f0 > 9
                  · rw [if_pos g2]
                  · rw [if_neg g2]
                    by_cases g3 : f1 < 0
                    · rw [if_pos g3]
                    · rw [if_neg g3, decide_eq_true (by omega)]) hs)
          (fun _ => ev_some fun k => by
            show impl_SketchOK.l0 (k + 1) L (L.length : Int) (L.length : Int) n L = _
            simp only [impl_SketchOK.l0]; rw [if_neg (by omega)])
        have e : sketchOK n L = if rulesOK n L then true else false := by
          unfold sketchOK
          by_cases hc : rulesOK n L
          · rw [if_pos hc, decide_eq_true_eq]; exact ⟨by omega, by omega, by omega, hc⟩
          · rw [if_neg hc, decide_eq_false_iff_not]; exact fun h => hc h.2.2.2
        rw [e]; exact key

def ruleConv (x : S85) : S35 := ⟨x.f0, x.f1, x.f2, x.f3⟩
theorem sz_sketch (n : Int) (l : List S85) (hl : l.length ≤ maxLen) : laws_szSketch.f n l 1048576 = some (if 1048576 - (l.length : Int) < 0 then -1 else 1048576 - (l.length : Int)) := by
  unfold maxLen at hl
  unfold laws_szSketch.f laws_szRuleS.f
  rw [wr (by omega) (by omega)]
  by_cases hh : 1048576 - (l.length : Int) < 0
  · simp only [if_pos hh, Option.bind_some]; rfl
  · simp only [if_neg hh, Option.bind_some]
theorem copy_rules (l : List S85) (h : l.length ≤ 1048576) : Ev (fun k => laws_toRuleS.f k l) (l.map ruleConv) := by
  have := copy_loop laws_toRuleS.l0 ruleConv z85 (fun k x0 x3 i h1 h2 => by
    simp only [laws_toRuleS.l0, laws_toRule.f, Option.bind_some]
    rw [if_pos (by omega), if_pos (by omega), if_pos (by omega)]
    rfl) (fun k x0 x3 => by simp only [laws_toRuleS.l0]; rw [if_neg (by omega)]) l (by omega) (List.replicate l.length z35) (by simp)
  unfold laws_toRuleS.f
  simp only [show (0 : Int) ≤ (l.length : Int) from by omega, if_true, Int.toNat_natCast, show l.length ≤ 8796093022208 from by omega]
  exact this
theorem same_rules (l : List S35) (h : l.length ≤ 1048576) : Ev (fun k => laws_eqRuleS.f k l l) true := by
  unfold laws_eqRuleS.f
  simp only [if_true]
  exact same_loop laws_eqRuleS.l0 l (fun k i hi => by
    simp only [laws_eqRuleS.l0, laws_eqRule.f, if_true, Option.bind_some]
    rw [if_pos (by omega), if_pos (by omega), if_pos (by omega)]) (fun k => by simp only [laws_eqRuleS.l0]; rw [if_neg (by omega)]) (by omega)
theorem copy_sketch (n : Int) (l : List S85) (h : l.length ≤ 1048576) : Ev (fun k => laws_toSketch.f k n l) (n, l.map ruleConv) := by
  unfold laws_toSketch.f
  exact Ev.bind (copy_rules l h) (Ev.now _)
theorem same_sketch (n : Int) (l : List S35) (h : l.length ≤ 1048576) : Ev (fun k => laws_eqSketch.f k n l n l) true := by
  unfold laws_eqSketch.f
  simp only [if_true]
  refine Ev.bind (same_rules l h) ?_
  exact ev_const (by simp)

theorem FnExactSketchOK : laws_FnExactSketchOK.Plain := by
  intro n l _ hl
  refine Ev.rounds ?_
  unfold laws_FnExactSketchOK.f
  rw [sz_sketch n l hl.1]
  simp only [Option.bind_some]
  by_cases hs : 1048576 - (l.length : Int) < 0
  · simp only [if_pos hs]; exact ev_const (by simp)
  · simp only [if_neg hs]
    have hc := copy_sketch n l (by omega)
    refine Ev.bind hc ?_
    refine Ev.bind (spec_sketch n (l.map ruleConv) (by simp; omega)) ?_
    refine Ev.bind hc ?_
    refine Ev.bind (impl_sketch n (l.map ruleConv) (by simp; omega)) ?_
    simp only [bne_self_eq_false, Bool.false_eq_true, if_false]
    refine Ev.bind hc ?_
    refine Ev.bind (same_sketch n (l.map ruleConv) (by simp; omega)) ?_
    exact ev_const (by simp)
end Go.Proofs.Ytnbkdfnlggmopaa.Pure
