/- FnExactRest over numbers and lists alone: the program's Rest and the reference's answer alike at every two fields, which read as before. -/
import Derived.Test.YtbfjpolihoaafaaSFnExactRest
import Derived.Test.YtbfjpolihoaafaaLib
namespace Go.Proofs.Ytbfjpolihoaafaa.Pure
open Go.RowKit Go.Proofs.Ytbfjpolihoaafaa.PFnExactRest Go.Proofs.YtbfjpolihoaafaaW.PrintWords Go.Proofs.YtbfjpolihoaafaaW.PrintLast Go.Proofs.YtbfjpolihoaafaaW.PrintMore Go.Proofs.Ytbfjpolihoaafaa.Lib
set_option linter.unusedVariables false
set_option linter.unusedSimpArgs false

def okCells (l : List Int) : Prop := ∀ i, i < l.length → (decide (0 ≤ rd l (i : Int) ∧ rd l (i : Int) ≤ 24)) = true
instance (l : List Int) : Decidable (okCells l) := by unfold okCells; exact inferInstance
def okField (w h : Int) (l : List Int) : Bool := decide (1 ≤ w ∧ w ≤ 24 ∧ 1 ≤ h ∧ h ≤ 24 ∧ (l.length : Int) = w * h ∧ okCells l)
theorem bd_mul {w h : Int} (h1 : 1 ≤ w) (h2 : w ≤ 24) (h3 : 1 ≤ h) (h4 : h ≤ 24) : 1 ≤ w * h ∧ w * h ≤ 576 := by
  constructor
  · have := Int.mul_le_mul h1 h3 (by omega) (by omega); omega
  · have := Int.mul_le_mul h2 h4 (by omega) (by omega); omega
theorem spec_field (w h : Int) (l : List Int) (hl : l.length ≤ 9223372036854775806) : Ev (fun k => spec_FieldOK.f k w h l) (okField w h l) := by
  have stop : okField w h l = false → Ev (fun k => spec_FieldOK.j0 k true w h l) (okField w h l) := fun h => by
    rw [h]; exact ev_some fun k => by simp only [spec_FieldOK.j0, if_true]
  unfold spec_FieldOK.f
  by_cases h1 : w < 1
  · simp only [if_pos h1]; exact stop (by simp only [okField, decide_eq_false_iff_not]; omega)
  · simp only [if_neg h1]
    by_cases h2 : w > 24
    · simp only [if_pos h2]; exact stop (by simp only [okField, decide_eq_false_iff_not]; omega)
    · simp only [if_neg h2]
      by_cases h3 : h < 1
      · simp only [if_pos h3]; exact stop (by simp only [okField, decide_eq_false_iff_not]; omega)
      · simp only [if_neg h3]
        by_cases h4 : h > 24
        · simp only [if_pos h4]; exact stop (by simp only [okField, decide_eq_false_iff_not]; omega)
        · simp only [if_neg h4]
          have hm := bd_mul (w := w) (h := h) (by omega) (by omega) (by omega) (by omega)
          rw [wr (by omega) (by omega)]
          by_cases h5 : (l.length : Int) = w * h
          · simp only [h5, bne_self_eq_false]
            refine ev_one (f := fun k => spec_FieldOK.l0 k 0 w h l) (fun k => by simp only [spec_FieldOK.j0]; rfl) ?_
            have := all_loop (r := true) (bad := false) (fun i k => spec_FieldOK.l0 k (i : Int) w h l) l.length (fun i => decide (0 ≤ rd l (i : Int) ∧ rd l (i : Int) ≤ 24)) (fun i hi hp => ⟨0, fun k _ => by
                show spec_FieldOK.l0 (k + 1) (i : Int) w h l = spec_FieldOK.l0 k ((i + 1 : Nat) : Int) w h l
                simp only [decide_eq_true_eq] at hp
                simp only [spec_FieldOK.l0]
                rw [if_pos (by omega), if_pos (by omega), if_neg (by omega), if_neg (by omega), wr_succ i (by omega)]⟩)
              (fun i hi hp => ev_some fun k => by
                show spec_FieldOK.l0 (k + 1) (i : Int) w h l = _
                simp only [decide_eq_false_iff_not] at hp
                simp only [spec_FieldOK.l0]
                rw [if_pos (by omega), if_pos (by omega)]
                by_cases h0 : rd l (i : Int) < 0
                · rw [if_pos h0]
                · rw [if_neg h0, if_pos (by omega)])
              (fun _ => ev_some fun k => by
                show spec_FieldOK.l0 (k + 1) (l.length : Int) w h l = _
                simp only [spec_FieldOK.l0]
                rw [if_neg (by omega)])
            have e : okField w h l = if okCells l then true else false := by
              unfold okField
              by_cases hc : okCells l
              · rw [if_pos hc, decide_eq_true_eq]; exact ⟨by omega, by omega, by omega, by omega, h5, hc⟩
              · rw [if_neg hc, decide_eq_false_iff_not]; exact fun h => hc h.2.2.2.2.2
            rw [e]
            exact this
          · have : ((l.length : Int) != w * h) = true := by simpa using h5
            simp only [this]; exact stop (by simp only [okField, decide_eq_false_iff_not]; exact fun h => h5 h.2.2.2.2.1)
theorem impl_field (w h : Int) (l : List Int) (hl : l.length ≤ 9223372036854775806) : Ev (fun k => impl_FieldOK.f k w h l) (okField w h l) := by
  have stop : okField w h l = false → Ev (fun k => impl_FieldOK.j0 k true w h l) (okField w h l) := fun h => by
    rw [h]; exact ev_some fun k => by simp only [impl_FieldOK.j0, if_true]
  unfold impl_FieldOK.f
  by_cases h1 : w < 1
  · simp only [if_pos h1]; exact stop (by simp only [okField, decide_eq_false_iff_not]; omega)
  · simp only [if_neg h1]
    by_cases h2 : w > 24
    · simp only [if_pos h2]; exact stop (by simp only [okField, decide_eq_false_iff_not]; omega)
    · simp only [if_neg h2]
      by_cases h3 : h < 1
      · simp only [if_pos h3]; exact stop (by simp only [okField, decide_eq_false_iff_not]; omega)
      · simp only [if_neg h3]
        by_cases h4 : h > 24
        · simp only [if_pos h4]; exact stop (by simp only [okField, decide_eq_false_iff_not]; omega)
        · simp only [if_neg h4]
          have hm := bd_mul (w := w) (h := h) (by omega) (by omega) (by omega) (by omega)
          rw [wr (by omega) (by omega)]
          by_cases h5 : (l.length : Int) = w * h
          · simp only [h5, bne_self_eq_false]
            refine ev_one (f := fun k => impl_FieldOK.l0 k l (l.length : Int) 0) (fun k => by simp only [impl_FieldOK.j0]; rfl) ?_
            have := all_loop (r := true) (bad := false) (fun i k => impl_FieldOK.l0 k l (l.length : Int) (i : Int)) l.length (fun i => decide (0 ≤ rd l (i : Int) ∧ rd l (i : Int) ≤ 24)) (fun i hi hp => ⟨0, fun k _ => by
                show impl_FieldOK.l0 (k + 1) l (l.length : Int) (i : Int) = impl_FieldOK.l0 k l (l.length : Int) ((i + 1 : Nat) : Int)
                simp only [decide_eq_true_eq] at hp
                simp only [impl_FieldOK.l0]
                rw [if_pos (by omega), if_pos (by omega), if_pos (by omega), if_neg (by omega), if_neg (by omega), wr_succ i (by omega)]⟩)
              (fun i hi hp => ev_some fun k => by
                show impl_FieldOK.l0 (k + 1) l (l.length : Int) (i : Int) = _
                simp only [decide_eq_false_iff_not] at hp
                simp only [impl_FieldOK.l0]
                rw [if_pos (by omega), if_pos (by omega), if_pos (by omega)]
                by_cases h0 : rd l (i : Int) < 0
                · rw [if_pos h0]
                · rw [if_neg h0, if_pos (by omega)])
              (fun _ => ev_some fun k => by
                show impl_FieldOK.l0 (k + 1) l (l.length : Int) (l.length : Int) = _
                simp only [impl_FieldOK.l0]
                rw [if_neg (by omega)])
            have e : okField w h l = if okCells l then true else false := by
              unfold okField
              by_cases hc : okCells l
              · rw [if_pos hc, decide_eq_true_eq]; exact ⟨by omega, by omega, by omega, by omega, h5, hc⟩
              · rw [if_neg hc, decide_eq_false_iff_not]; exact fun h => hc h.2.2.2.2.2
            rw [e]
            exact this
          · have : ((l.length : Int) != w * h) = true := by simpa using h5
            simp only [this]; exact stop (by simp only [okField, decide_eq_false_iff_not]; exact fun h => h5 h.2.2.2.2.1)

theorem sz_ints (l : List Int) (a : Int) (h0 : 0 ≤ a) (ha : a ≤ 1048576) (hl : l.length ≤ maxLen) : laws_szIntS.f l a = some (if a - (l.length : Int) < 0 then -1 else a - (l.length : Int)) := by
  unfold maxLen at hl
  unfold laws_szIntS.f
  rw [wr (by omega) (by omega)]
  split <;> rfl
theorem sz_field (w h : Int) (l : List Int) (a : Int) (h0 : 0 ≤ a) (ha : a ≤ 1048576) (hl : l.length ≤ maxLen) : laws_szField.f w h l a = some (if a - (l.length : Int) < 0 then -1 else a - (l.length : Int)) := by
  unfold laws_szField.f
  rw [sz_ints l a h0 ha hl]
  simp only [Option.bind_some]
  by_cases hh : a - (l.length : Int) < 0
  · simp only [if_pos hh]; rfl
  · simp only [if_neg hh]
theorem copy_ints (l : List Int) (h : l.length ≤ 1048576) : Ev (fun k => laws_toIntS.f k l) l := by
  have := copy_loop laws_toIntS.l0 (fun x : Int => x) 0 (fun k x0 x3 i h1 h2 => by
    simp only [laws_toIntS.l0]
    rw [if_pos (by omega), if_pos (by omega), if_pos (by omega)]
    rfl) (fun k x0 x3 => by simp only [laws_toIntS.l0]; rw [if_neg (by omega)]) l (by omega) (List.replicate l.length 0) (by simp)
  simp only [List.map_id'] at this
  unfold laws_toIntS.f
  simp only [show (0 : Int) ≤ (l.length : Int) from by omega, if_true, Int.toNat_natCast, show l.length ≤ 35184372088832 from by omega]
  exact this
theorem same_ints (l : List Int) (h : l.length ≤ 1048576) : Ev (fun k => laws_eqIntS.f k l l) true := by
  unfold laws_eqIntS.f
  simp only [if_true]
  exact same_loop laws_eqIntS.l0 l (fun k i hi => by
    simp only [laws_eqIntS.l0]
    rw [if_pos (by omega), if_pos (by omega), if_pos (by omega), if_pos trivial]) (fun k => by simp only [laws_eqIntS.l0]; rw [if_neg (by omega)]) (by omega)
theorem copy_field (w h : Int) (l : List Int) (hl : l.length ≤ 1048576) : Ev (fun k => laws_toField.f k w h l) (w, h, l) := by
  unfold laws_toField.f
  exact Ev.bind (copy_ints l hl) (Ev.now _)
theorem same_field (w h : Int) (l : List Int) (hl : l.length ≤ 1048576) : Ev (fun k => laws_eqField.f k w h l w h l) true := by
  unfold laws_eqField.f
  simp only [if_true]
  refine Ev.bind (same_ints l hl) ?_
  exact ev_const (by simp)

def restSt (a b : List Int) : Nat → Int
  | 0 => 0
  | i + 1 => wrap64 (restSt a b i + max (wrap64 (rd a (i : Int) - rd b (i : Int))) 0)
def restM (w h : Int) (a : List Int) (v g : Int) (b : List Int) : Int × Int :=
  if okField w h a = true ∧ okField v g b = true ∧ w = v ∧ h = g then (restSt a b a.length, 0) else (0, 1)
theorem ok_len {w h : Int} {l : List Int} (e : okField w h l = true) : (l.length : Int) = w * h := by
  simp only [okField, decide_eq_true_eq] at e; exact e.2.2.2.2.1
theorem spec_rest (w h : Int) (a : List Int) (v g : Int) (b : List Int) (ha : a.length ≤ 1048576) (hb : b.length ≤ 1048576) : Ev (fun k => spec_Rest.f k w h a v g b) (restM w h a v g b) := by
  have stop : ¬ (okField w h a = true ∧ okField v g b = true ∧ w = v ∧ h = g) → Ev (fun k => spec_Rest.j0 k true w h a v g b) (restM w h a v g b) := fun hn => by
    unfold restM; rw [if_neg hn]; exact ev_some fun k => by simp only [spec_Rest.j0, if_true]
  unfold spec_Rest.f
  refine Ev.bind (spec_field w h a (by omega)) ?_
  by_cases h1 : okField w h a = true
  · simp only [if_pos h1]
    refine Ev.bind (spec_field v g b (by omega)) ?_
    by_cases h2 : okField v g b = true
    · simp only [if_pos h2]
      by_cases h3 : w = v
      · simp only [if_pos h3]
        by_cases h4 : h = g
        · subst h3 h4
          have hl : a.length = b.length := by have := ok_len h1; have := ok_len h2; omega
          unfold restM
          rw [if_pos ⟨h1, h2, rfl, rfl⟩]
          refine ev_one (f := fun k => spec_Rest.l0 k 0 0 w h a w h b) (fun k => by simp [spec_Rest.j0]) ?_
          refine ev_run0 (fun i k => spec_Rest.l0 k (restSt a b i) (i : Int) w h a w h b) a.length (fun i hi k => ?_) (ev_some fun k => ?_)
          · show spec_Rest.l0 (k + 1) (restSt a b i) (i : Int) w h a w h b = spec_Rest.l0 k (restSt a b (i + 1)) ((i + 1 : Nat) : Int) w h a w h b
            simp only [spec_Rest.l0]
            rw [if_pos (by omega), if_pos (by omega), if_pos (by omega), wr_succ i (by omega), mx_eq]
            rfl
          · simp only [spec_Rest.l0]; rw [if_neg (by omega)]
        · have : (h != g) = true := by simpa using h4
          rw [this]; exact stop (fun h => h4 h.2.2.2)
      · simp only [if_neg h3]; exact stop (fun h => h3 h.2.2.1)
    · simp only [if_neg h2]; exact stop (fun h => h2 h.2.1)
  · simp only [if_neg h1]; exact stop (fun h => h1 h.1)
theorem impl_rest (w h : Int) (a : List Int) (v g : Int) (b : List Int) (ha : a.length ≤ 1048576) (hb : b.length ≤ 1048576) : Ev (fun k => impl_Rest.f k w h a v g b) (restM w h a v g b) := by
  have stop : ¬ (okField w h a = true ∧ okField v g b = true ∧ w = v ∧ h = g) → Ev (fun k => impl_Rest.j0 k true w h a v g b) (restM w h a v g b) := fun hn => by
    unfold restM; rw [if_neg hn]; exact ev_some fun k => by simp only [impl_Rest.j0, if_true]
  unfold impl_Rest.f
  refine Ev.bind (impl_field w h a (by omega)) ?_
  by_cases h1 : okField w h a = true
  · simp only [if_pos h1]
    refine Ev.bind (impl_field v g b (by omega)) ?_
    by_cases h2 : okField v g b = true
    · simp only [if_pos h2]
      by_cases h3 : w = v
      · simp only [if_pos h3]
        by_cases h4 : h = g
        · subst h3 h4
          have hl : a.length = b.length := by have := ok_len h1; have := ok_len h2; omega
          unfold restM
          rw [if_pos ⟨h1, h2, rfl, rfl⟩]
          refine ev_one (f := fun k => impl_Rest.l0 k 0 a (a.length : Int) 0 w h b) (fun k => by simp [impl_Rest.j0]) ?_
          refine ev_run0 (fun i k => impl_Rest.l0 k (restSt a b i) a (a.length : Int) (i : Int) w h b) a.length (fun i hi k => ?_) (ev_some fun k => ?_)
          · show impl_Rest.l0 (k + 1) (restSt a b i) a (a.length : Int) (i : Int) w h b = impl_Rest.l0 k (restSt a b (i + 1)) a (a.length : Int) ((i + 1 : Nat) : Int) w h b
            simp only [impl_Rest.l0]
            rw [if_pos (by omega), if_pos (by omega), if_pos (by omega), if_pos (by omega), wr_succ i (by omega), mx_eq, Int.max_comm]
            rfl
          · simp only [impl_Rest.l0]; rw [if_neg (by omega)]
        · have : (h != g) = true := by simpa using h4
          rw [this]; exact stop (fun h => h4 h.2.2.2)
      · simp only [if_neg h3]; exact stop (fun h => h3 h.2.2.1)
    · simp only [if_neg h2]; exact stop (fun h => h2 h.2.1)
  · simp only [if_neg h1]; exact stop (fun h => h1 h.1)

theorem FnExactRest : laws_FnExactRest.Plain := by
  intro w h a v g b _ _ hl _ _ hm
  refine Ev.rounds ?_
  unfold laws_FnExactRest.f
  rw [sz_field w h a _ (by omega) (by omega) hl.1]
  simp only [Option.bind_some]
  by_cases hs : 1048576 - (a.length : Int) < 0
  · simp only [if_pos hs]; exact ev_const (by simp)
  · simp only [if_neg hs]
    rw [sz_field v g b _ (by omega) (by omega) hm.1]
    simp only [Option.bind_some]
    by_cases ht : 1048576 - (a.length : Int) - (b.length : Int) < 0
    · simp only [if_pos ht]; exact ev_const (by simp)
    · simp only [if_neg ht]
      have hc := copy_field w h a (by omega)
      have hd := copy_field v g b (by omega)
      refine Ev.bind hc ?_
      refine Ev.bind hd ?_
      refine Ev.bind (spec_rest w h a v g b (by omega) (by omega)) ?_
      refine Ev.bind hc ?_
      refine Ev.bind hd ?_
      refine Ev.bind (impl_rest w h a v g b (by omega) (by omega)) ?_
      simp only [if_true, bne_self_eq_false]
      refine ev_one (f := _) (fun k => by simp only [laws_FnExactRest.j0]; rfl) ?_
      simp only [Bool.false_eq_true, if_false]
      refine Ev.bind hc ?_
      refine Ev.bind (same_field w h a (by omega)) ?_
      simp only [if_true]
      refine Ev.bind hd ?_
      refine Ev.bind (same_field v g b (by omega)) ?_
      exact ev_const (by simp)
end Go.Proofs.Ytbfjpolihoaafaa.Pure
