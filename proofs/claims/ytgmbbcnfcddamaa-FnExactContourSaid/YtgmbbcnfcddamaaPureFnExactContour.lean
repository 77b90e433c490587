/- FnExactContour over numbers and lists alone: the program's Contour and the reference's answer alike at every field and height, which read as before; what came back is held. -/
import Derived.Test.YtgmbbcnfcddamaaSFnExactContour
import Derived.Test.YtgmbbcnfcddamaaLib
namespace Go.Proofs.Ytgmbbcnfcddamaa.Pure
open Go.RowKit Go.Proofs.Ytgmbbcnfcddamaa.PFnExactContour Go.Proofs.YtgmbbcnfcddamaaW.PrintWords Go.Proofs.YtgmbbcnfcddamaaW.PrintLast Go.Proofs.Ytgmbbcnfcddamaa.Lib
set_option linter.unusedVariables false
set_option linter.unusedSimpArgs false

def okCells (l : List Int) : Prop := ∀ i, i < l.length → (decide (0 ≤ rd l (i : Int) ∧ rd l (i : Int) ≤ 24)) = true
instance (l : List Int) : Decidable (okCells l) := by unfold okCells; exact inferInstance
def okField (w h : Int) (l : List Int) : Bool := decide (1 ≤ w ∧ w ≤ 24 ∧ 1 ≤ h ∧ h ≤ 24 ∧ (l.length : Int) = w * h ∧ okCells l)
theorem bd_mul {w h : Int} (h1 : 1 ≤ w) (h2 : w ≤ 24) (h3 : 1 ≤ h) (h4 : h ≤ 24) : 1 ≤ w * h ∧ w * h ≤ 576 := by
  constructor
  · have := Int.mul_le_mul h1 h3 (by omega) (by omega); omega
  · have := Int.mul_le_mul h2 h4 (by omega) (by omega); omega
theorem spec_field (w h : Int) (l : List Int) (hl : l.length ≤ 9223372036854775806) : Ev (fun k => spec_FieldOK.f k w h l) (okField w h l) := by
  have stop : okField w h l = false → Ev (fun k => spec_FieldOK.j0 k true w h l) (okField w h l) := fun h => by
    rw [h]; exact ev_some fun k => by simp only [spec_FieldOK.j0, if_true]
  unfold spec_FieldOK.f
  by_cases h1 : w < 1
  · simp only [if_pos h1]; exact stop (by simp only [okField, decide_eq_false_iff_not]; omega)
  · simp only [if_neg h1]
    by_cases h2 : w > 24
    · simp only [if_pos h2]; exact stop (by simp only [okField, decide_eq_false_iff_not]; omega)
    · simp only [if_neg h2]
      by_cases h3 : h < 1
      · simp only [if_pos h3]; exact stop (by simp only [okField, decide_eq_false_iff_not]; omega)
      · simp only [if_neg h3]
        by_cases h4 : h > 24
        · simp only [if_pos h4]; exact stop (by simp only [okField, decide_eq_false_iff_not]; omega)
        · simp only [if_neg h4]
          have hm := bd_mul (w := w) (h := h) (by omega) (by omega) (by omega) (by omega)
          rw [wr (by omega) (by omega)]
          by_cases h5 : (l.length : Int) = w * h
          · simp only [h5, bne_self_eq_false]
            refine ev_one (f := fun k => spec_FieldOK.l0 k 0 w h l) (fun k => by simp only [spec_FieldOK.j0]; rfl) ?_
            have := all_loop (r := true) (bad := false) (fun i k => spec_FieldOK.l0 k (i : Int) w h l) l.length (fun i => decide (0 ≤ rd l (i : Int) ∧ rd l (i : Int) ≤ 24)) (fun i hi hp => ⟨0, fun k _ => by
                show spec_FieldOK.l0 (k + 1) (i : Int) w h l = spec_FieldOK.l0 k ((i + 1 : Nat) : Int) w h l
                simp only [decide_eq_true_eq] at hp
                simp only [spec_FieldOK.l0]
                rw [if_pos (by omega), if_pos (by omega), if_neg (by omega), if_neg (by omega), wr_succ i (by omega)]⟩)
              (fun i hi hp => ev_some fun k => by
                show spec_FieldOK.l0 (k + 1) (i : Int) w h l = _
                simp only [decide_eq_false_iff_not] at hp
                simp only [spec_FieldOK.l0]
                rw [if_pos (by omega), if_pos (by omega)]
                by_cases h0 : rd l (i : Int) < 0
                · rw [if_pos h0]
                · rw [if_neg h0, if_pos (by omega)])
              (fun _ => ev_some fun k => by
                show spec_FieldOK.l0 (k + 1) (l.length : Int) w h l = _
                simp only [spec_FieldOK.l0]
                rw [if_neg (by omega)])
            have e : okField w h l = if okCells l then true else false := by
              unfold okField
              by_cases hc : okCells l
              · rw [if_pos hc, decide_eq_true_eq]; exact ⟨by omega, by omega, by omega, by omega, h5, hc⟩
              · rw [if_neg hc, decide_eq_false_iff_not]; exact fun h => hc h.2.2.2.2.2
            rw [e]
            exact this
          · have : ((l.length : Int) != w * h) = true := by simpa using h5
            simp only [this]; exact stop (by simp only [okField, decide_eq_false_iff_not]; exact fun h => h5 h.2.2.2.2.1)
theorem impl_field (w h : Int) (l : List Int) (hl : l.length ≤ 9223372036854775806) : Ev (fun k => impl_FieldOK.f k w h l) (okField w h l) := by
  have stop : okField w h l = false → Ev (fun k => impl_FieldOK.j0 k true w h l) (okField w h l) := fun h => by
    rw [h]; exact ev_some fun k => by simp only [impl_FieldOK.j0, if_true]
  unfold impl_FieldOK.f
  by_cases h1 : w < 1
  · simp only [if_pos h1]; exact stop (by simp only [okField, decide_eq_false_iff_not]; omega)
  · simp only [if_neg h1]
    by_cases h2 : w > 24
    · simp only [if_pos h2]; exact stop (by simp only [okField, decide_eq_false_iff_not]; omega)
    · simp only [if_neg h2]
      by_cases h3 : h < 1
      · simp only [if_pos h3]; exact stop (by simp only [okField, decide_eq_false_iff_not]; omega)
      · simp only [if_neg h3]
        by_cases h4 : h > 24
        · simp only [if_pos h4]; exact stop (by simp only [okField, decide_eq_false_iff_not]; omega)
        · simp only [if_neg h4]
          have hm := bd_mul (w := w) (h := h) (by omega) (by omega) (by omega) (by omega)
          rw [wr (by omega) (by omega)]
          by_cases h5 : (l.length : Int) = w * h
          · simp only [h5, bne_self_eq_false]
            refine ev_one (f := fun k => impl_FieldOK.l0 k l (l.length : Int) 0) (fun k => by simp only [impl_FieldOK.j0]; rfl) ?_
            have := all_loop (r := true) (bad := false) (fun i k => impl_FieldOK.l0 k l (l.length : Int) (i : Int)) l.length (fun i => decide (0 ≤ rd l (i : Int) ∧ rd l (i : Int) ≤ 24)) (fun i hi hp => ⟨0, fun k _ => by
                show impl_FieldOK.l0 (k + 1) l (l.length : Int) (i : Int) = impl_FieldOK.l0 k l (l.length : Int) ((i + 1 : Nat) : Int)
                simp only [decide_eq_true_eq] at hp
                simp only [impl_FieldOK.l0]
                rw [if_pos (by omega), if_pos (by omega), if_pos (by omega), if_neg (by omega), if_neg (by omega), wr_succ i (by omega)]⟩)
              (fun i hi hp => ev_some fun k => by
                show impl_FieldOK.l0 (k + 1) l (l.length : Int) (i : Int) = _
                simp only [decide_eq_false_iff_not] at hp
                simp only [impl_FieldOK.l0]
                rw [if_pos (by omega), if_pos (by omega), if_pos (by omega)]
                by_cases h0 : rd l (i : Int) < 0
                · rw [if_pos h0]
                · rw [if_neg h0, if_pos (by omega)])
              (fun _ => ev_some fun k => by
                show impl_FieldOK.l0 (k + 1) l (l.length : Int) (l.length : Int) = _
                simp only [impl_FieldOK.l0]
                rw [if_neg (by omega)])
            have e : okField w h l = if okCells l then true else false := by
              unfold okField
              by_cases hc : okCells l
              · rw [if_pos hc, decide_eq_true_eq]; exact ⟨by omega, by omega, by omega, by omega, h5, hc⟩
              · rw [if_neg hc, decide_eq_false_iff_not]; exact fun h => hc h.2.2.2.2.2
            rw [e]
            exact this
          · have : ((l.length : Int) != w * h) = true := by simpa using h5
            simp only [this]; exact stop (by simp only [okField, decide_eq_false_iff_not]; exact fun h => h5 h.2.2.2.2.1)

theorem sz_ints (l : List Int) (a : Int) (h0 : 0 ≤ a) (ha : a ≤ 1048576) (hl : l.length ≤ maxLen) : laws_szIntS.f l a = some (if a - (l.length : Int) < 0 then -1 else a - (l.length : Int)) := by
  unfold maxLen at hl
  unfold laws_szIntS.f
  rw [wr (by omega) (by omega)]
  split <;> rfl
theorem sz_field (w h : Int) (l : List Int) (a : Int) (h0 : 0 ≤ a) (ha : a ≤ 1048576) (hl : l.length ≤ maxLen) : laws_szField.f w h l a = some (if a - (l.length : Int) < 0 then -1 else a - (l.length : Int)) := by
  unfold laws_szField.f
  rw [sz_ints l a h0 ha hl]
  simp only [Option.bind_some]
  by_cases hh : a - (l.length : Int) < 0
  · simp only [if_pos hh]; rfl
  · simp only [if_neg hh]
theorem copy_ints (l : List Int) (h : l.length ≤ 1048576) : Ev (fun k => laws_toIntS.f k l) l := by
  have := copy_loop laws_toIntS.l0 (fun x : Int => x) 0 (fun k x0 x3 i h1 h2 => by
    simp only [laws_toIntS.l0]
    rw [if_pos (by omega), if_pos (by omega), if_pos (by omega)]
    rfl) (fun k x0 x3 => by simp only [laws_toIntS.l0]; rw [if_neg (by omega)]) l (by omega) (List.replicate l.length 0) (by simp)
  simp only [List.map_id'] at this
  unfold laws_toIntS.f
  simp only [show (0 : Int) ≤ (l.length : Int) from by omega, if_true, Int.toNat_natCast, show l.length ≤ 35184372088832 from by omega]
  exact this
theorem same_ints (l : List Int) (h : l.length ≤ 1048576) : Ev (fun k => laws_eqIntS.f k l l) true := by
  unfold laws_eqIntS.f
  simp only [if_true]
  exact same_loop laws_eqIntS.l0 l (fun k i hi => by
    simp only [laws_eqIntS.l0]
    rw [if_pos (by omega), if_pos (by omega), if_pos (by omega), if_pos trivial]) (fun k => by simp only [laws_eqIntS.l0]; rw [if_neg (by omega)]) (by omega)
theorem copy_field (w h : Int) (l : List Int) (hl : l.length ≤ 1048576) : Ev (fun k => laws_toField.f k w h l) (w, h, l) := by
  unfold laws_toField.f
  exact Ev.bind (copy_ints l hl) (Ev.now _)
theorem same_field (w h : Int) (l : List Int) (hl : l.length ≤ 1048576) : Ev (fun k => laws_eqField.f k w h l w h l) true := by
  unfold laws_eqField.f
  simp only [if_true]
  refine Ev.bind (same_ints l hl) ?_
  exact ev_const (by simp)

theorem mark_ints (n : Nat) (hn : n ≤ 1048576) : ∀ (m i : Nat) (x : List Int), i + m = n → x.length = n → (∀ j, j < i → rd x (j : Int) = 1 + (j : Int)) → ∃ x', Ev (fun k => laws_markIntS.l0 k x (1 + (i : Int)) (i : Int)) (1 + (n : Int), x') ∧ x'.length = n ∧ ∀ j, j < n → rd x' (j : Int) = 1 + (j : Int) := by
  intro m
  induction m with
  | zero =>
    intro i x hi hx hr
    obtain rfl : i = n := by omega
    exact ⟨x, ev_some fun k => by simp only [laws_markIntS.l0]; rw [if_neg (by omega)], hx, hr⟩
  | succ m ih =>
    intro i x hi hx hr
    obtain ⟨x', h, h1, h2⟩ := ih (i + 1) (x.set i (1 + (i : Int))) (by omega) (by simpa using hx) (fun j hj => by
      rw [rd_lt _ _ (by simp; omega), List.getElem_set]
      split
      · rename_i e; rw [e]
      · rw [← rd_lt _ _ (by omega)]; exact hr j (by omega))
    refine ⟨x', ev_one (fun k => ?_) h, h1, h2⟩
    simp only [laws_markIntS.l0]
    rw [if_pos (by omega), if_pos (by omega)]
    simp only [Int.toNat_natCast]
    rw [wr (n := 1 + (i : Int) + 1) (by omega) (by omega), wr_succ i (by omega)]
    congr 1

theorem same_pts (l : List S43) (h : l.length ≤ 1048576) : Ev (fun k => laws_eqPointS.f k l l) true := by
  unfold laws_eqPointS.f
  simp only [if_true]
  exact same_loop laws_eqPointS.l0 l (fun k i hi => by
    simp only [laws_eqPointS.l0, laws_eqPoint.f, if_true, Option.bind_some]
    rw [if_pos (by omega), if_pos (by omega), if_pos (by omega)]) (fun k => by simp only [laws_eqPointS.l0]; rw [if_neg (by omega)]) (by omega)

theorem mark_held_pts (n : Nat) (hn : n ≤ 1048576) : ∀ (m i : Nat) (x : List S43), i + m = n → x.length = n → (∀ j, j < i → (rd_T43 x (j : Int)).f0 = 1 + 2 * (j : Int) ∧ (rd_T43 x (j : Int)).f1 = 2 + 2 * (j : Int)) → ∃ x', Ev (fun k => laws_markPointS.l0 k x (1 + 2 * (i : Int)) (i : Int)) (1 + 2 * (n : Int), x') ∧ x'.length = n ∧ ∀ j, j < n → (rd_T43 x' (j : Int)).f0 = 1 + 2 * (j : Int) ∧ (rd_T43 x' (j : Int)).f1 = 2 + 2 * (j : Int) := by
  intro m
  induction m with
  | zero =>
    intro i x hi hx hr
    obtain rfl : i = n := by omega
    exact ⟨x, ev_some fun k => by simp only [laws_markPointS.l0]; rw [if_neg (by omega)], hx, hr⟩
  | succ m ih =>
    intro i x hi hx hr
    have rs : ∀ (l : List S43) (p : S43) (j : Nat), i < l.length → rd_T43 (l.set i p) (j : Int) = if i = j then p else rd_T43 l (j : Int) := by
      intro l p j hl
      simp only [rd_T43, Int.toNat_natCast, List.getD_eq_getElem?_getD, List.getElem?_set]
      by_cases h : i = j
      · subst h; simp [hl]
      · simp [h]
    have e1 : (x.set i (⟨1 + 2 * (i : Int), (rd_T43 x (i : Int)).f1⟩ : S43)).set i (⟨(rd_T43 (x.set i (⟨1 + 2 * (i : Int), (rd_T43 x (i : Int)).f1⟩ : S43)) (i : Int)).f0, 1 + 2 * (i : Int) + 1⟩ : S43) = x.set i (⟨1 + 2 * (i : Int), 1 + 2 * (i : Int) + 1⟩ : S43) := by
      rw [rs x _ i (by omega), if_pos rfl, List.set_set]
    obtain ⟨x', h, h1, h2⟩ := ih (i + 1) (x.set i (⟨1 + 2 * (i : Int), 1 + 2 * (i : Int) + 1⟩ : S43)) (by omega) (by simpa using hx) (fun j hj => by
      rw [rs x _ j (by omega)]
      by_cases e : i = j
      · rw [if_pos e]; subst e; exact ⟨rfl, by show 1 + 2 * (i : Int) + 1 = _; omega⟩
      · rw [if_neg e]; exact hr j (by omega))
    refine ⟨x', ev_one (fun k => ?_) h, h1, h2⟩
    simp only [laws_markPointS.l0]
    rw [if_pos (by omega), if_pos (by omega)]
    simp only [Option.bind_some, Int.toNat_natCast]
    rw [wr (n := 1 + 2 * (i : Int) + 1) (by omega) (by omega), e1, wr (by omega) (by omega), wr_succ i (by omega), show 1 + 2 * (i : Int) + 1 + 1 = 1 + 2 * ((i + 1 : Nat) : Int) by omega]
theorem held_pts (x : List S43) (hn : x.length ≤ 1048576) (h : ∀ j, j < x.length → (rd_T43 x (j : Int)).f0 = 1 + 2 * (j : Int) ∧ (rd_T43 x (j : Int)).f1 = 2 + 2 * (j : Int)) : Ev (fun k => laws_heldPointS.f k x 1) (1 + 2 * (x.length : Int)) := by
  have := ev_run0 (r := 1 + 2 * (x.length : Int)) (fun i k => laws_heldPointS.l0 k x (1 + 2 * (i : Int)) (i : Int)) x.length (fun i hi k => by
    show laws_heldPointS.l0 (k + 1) x (1 + 2 * (i : Int)) (i : Int) = laws_heldPointS.l0 k x (1 + 2 * ((i + 1 : Nat) : Int)) ((i + 1 : Nat) : Int)
    have hh := h i hi
    simp only [laws_heldPointS.l0]
    rw [if_pos (by omega), if_pos (by omega), if_pos hh.1, wr (n := 1 + 2 * (i : Int) + 1) (by omega) (by omega), if_pos (by rw [hh.2]; omega), wr (by omega) (by omega), wr_succ i (by omega), show 1 + 2 * (i : Int) + 1 + 1 = 1 + 2 * ((i + 1 : Nat) : Int) by omega]) (ev_some fun k => by
    show laws_heldPointS.l0 (k + 1) x (1 + 2 * (x.length : Int)) (x.length : Int) = _
    simp only [laws_heldPointS.l0]; rw [if_neg (by omega)])
  simpa [laws_heldPointS.f] using this

/-! ### Round the outline of a set of cells -/
theorem pigeon : ∀ (M : Nat) (f : Nat → Nat), (∀ i, i ≤ M → f i < M) → ∃ i j, i < j ∧ j ≤ M ∧ f i = f j := by
  intro M
  induction M with
  | zero => intro f h; exact absurd (h 0 (Nat.le_refl _)) (by omega)
  | succ M ih =>
    intro f h
    by_cases hc : ∃ i, i ≤ M ∧ f i = f (M + 1)
    · obtain ⟨i, hi, e⟩ := hc
      exact ⟨i, M + 1, by omega, by omega, e⟩
    · have hne : ∀ i, i ≤ M → f i ≠ f (M + 1) := fun i hi e => hc ⟨i, hi, e⟩
      obtain ⟨i, j, h1, h2, h3⟩ := ih (fun i => if f i = M then f (M + 1) else f i) (fun i hi => by
        have a := h i (by omega); have b := h (M + 1) (Nat.le_refl _); have c := hne i hi
        show (if f i = M then f (M + 1) else f i) < M
        split <;> omega)
      have a := hne i (by omega); have b := hne j (by omega)
      have h3 : (if f i = M then f (M + 1) else f i) = (if f j = M then f (M + 1) else f j) := h3
      refine ⟨i, j, h1, by omega, ?_⟩
      split at h3 <;> split at h3 <;> omega
theorem least_of (p : Nat → Prop) : ∀ n, p n → ∃ m, m ≤ n ∧ p m ∧ ∀ i, i < m → ¬ p i := by
  intro n
  induction n using Nat.strongRecOn with
  | _ n ih =>
    intro hn
    by_cases h : ∃ i, i < n ∧ p i
    · obtain ⟨i, hi, pi⟩ := h
      obtain ⟨m, h1, h2, h3⟩ := ih i hi pi
      exact ⟨m, by omega, h2, h3⟩
    · exact ⟨n, Nat.le_refl _, hn, fun i hi pi => h ⟨i, hi, pi⟩⟩
structure Edge where
  x : Int
  y : Int
  d : Nat
theorem Edge.ext' {s t : Edge} (h1 : s.x = t.x) (h2 : s.y = t.y) (h3 : s.d = t.d) : s = t := by cases s; cases t; cases h1; cases h2; cases h3; rfl
def dX : Nat → Int | 0 => 1 | 1 => 0 | 2 => -1 | _ => 0
def dY : Nat → Int | 0 => 0 | 1 => 1 | 2 => 0 | _ => -1
def lX : Nat → Int | 0 => 0 | 1 => -1 | 2 => -1 | _ => 0
def lY : Nat → Int | 0 => 0 | 1 => 0 | 2 => -1 | _ => -1
def rX : Nat → Int | 0 => 0 | 1 => 0 | 2 => -1 | _ => -1
def rY : Nat → Int | 0 => -1 | 1 => 0 | 2 => 0 | _ => -1
def nextD (d : Nat) (l r : Bool) : Nat := if l = false then (d + 1) % 4 else if r = true then (d + 3) % 4 else d
def stepF (F : Int → Int → Bool) (s : Edge) : Edge :=
  ⟨s.x + dX s.d, s.y + dY s.d, nextD s.d (F (s.x + dX s.d + lX s.d) (s.y + dY s.d + lY s.d)) (F (s.x + dX s.d + rX s.d) (s.y + dY s.d + rY s.d))⟩
/-- An edge of the outline: full to the left, not so to the right. -/
def Bd (F : Int → Int → Bool) (s : Edge) : Prop := s.d < 4 ∧ F (s.x + lX s.d) (s.y + lY s.d) = true ∧ F (s.x + rX s.d) (s.y + rY s.d) = false
-- the four cells at a corner: right above, left above, left below, right below
def aL (d : Nat) (ne nw sw se : Bool) : Bool := match d with | 0 => ne | 1 => nw | 2 => sw | _ => se
def aR (d : Nat) (ne nw sw se : Bool) : Bool := match d with | 0 => se | 1 => ne | 2 => nw | _ => sw
def bL (d : Nat) (ne nw sw se : Bool) : Bool := match d with | 0 => nw | 1 => sw | 2 => se | _ => ne
def bR (d : Nat) (ne nw sw se : Bool) : Bool := match d with | 0 => sw | 1 => se | 2 => ne | _ => nw
theorem corner_keep : ∀ (d : Fin 4) (ne nw sw se : Bool), bL d ne nw sw se = true → bR d ne nw sw se = false → nextD d (aL d ne nw sw se) (aR d ne nw sw se) < 4 ∧ aL (nextD d (aL d ne nw sw se) (aR d ne nw sw se)) ne nw sw se = true ∧ aR (nextD d (aL d ne nw sw se) (aR d ne nw sw se)) ne nw sw se = false := by decide
theorem corner_inj : ∀ (d d2 : Fin 4) (ne nw sw se : Bool), bL d ne nw sw se = true → bR d ne nw sw se = false → bL d2 ne nw sw se = true → bR d2 ne nw sw se = false → nextD d (aL d ne nw sw se) (aR d ne nw sw se) = nextD d2 (aL d2 ne nw sw se) (aR d2 ne nw sw se) → d.val = d2.val := by decide
/-- What an edge meets, by the cells at the corner that it comes to. -/
theorem ahead (F : Int → Int → Bool) (x y : Int) (d : Nat) (hd : d < 4) (a b : Int) (ha : a = x + dX d) (hb : b = y + dY d) :
    F (x + dX d + lX d) (y + dY d + lY d) = aL d (F a b) (F (a - 1) b) (F (a - 1) (b - 1)) (F a (b - 1)) ∧ F (x + dX d + rX d) (y + dY d + rY d) = aR d (F a b) (F (a - 1) b) (F (a - 1) (b - 1)) (F a (b - 1)) ∧
    F (x + lX d) (y + lY d) = bL d (F a b) (F (a - 1) b) (F (a - 1) (b - 1)) (F a (b - 1)) ∧ F (x + rX d) (y + rY d) = bR d (F a b) (F (a - 1) b) (F (a - 1) (b - 1)) (F a (b - 1)) := by
  have c : ∀ {p q p' q' : Int}, p = p' → q = q' → F p q = F p' q' := fun h1 h2 => by rw [h1, h2]
  match d, hd with
  | 0, _ => simp only [dX, dY, lX, lY, rX, rY, aL, aR, bL, bR] at *; exact ⟨c (by omega) (by omega), c (by omega) (by omega), c (by omega) (by omega), c (by omega) (by omega)⟩
  | 1, _ => simp only [dX, dY, lX, lY, rX, rY, aL, aR, bL, bR] at *; exact ⟨c (by omega) (by omega), c (by omega) (by omega), c (by omega) (by omega), c (by omega) (by omega)⟩
  | 2, _ => simp only [dX, dY, lX, lY, rX, rY, aL, aR, bL, bR] at *; exact ⟨c (by omega) (by omega), c (by omega) (by omega), c (by omega) (by omega), c (by omega) (by omega)⟩
  | 3, _ => simp only [dX, dY, lX, lY, rX, rY, aL, aR, bL, bR] at *; exact ⟨c (by omega) (by omega), c (by omega) (by omega), c (by omega) (by omega), c (by omega) (by omega)⟩
/-- .. and what one leaves from there. -/
theorem leaving (F : Int → Int → Bool) (a b : Int) (d : Nat) (hd : d < 4) :
    F (a + lX d) (b + lY d) = aL d (F a b) (F (a - 1) b) (F (a - 1) (b - 1)) (F a (b - 1)) ∧ F (a + rX d) (b + rY d) = aR d (F a b) (F (a - 1) b) (F (a - 1) (b - 1)) (F a (b - 1)) := by
  have c : ∀ {p q p' q' : Int}, p = p' → q = q' → F p q = F p' q' := fun h1 h2 => by rw [h1, h2]
  match d, hd with
  | 0, _ => exact ⟨c (by simp only [lX]; omega) (by simp only [lY]; omega), c (by simp only [rX]; omega) (by simp only [rY]; omega)⟩
  | 1, _ => exact ⟨c (by simp only [lX]; omega) (by simp only [lY]; omega), c (by simp only [rX]; omega) (by simp only [rY]; omega)⟩
  | 2, _ => exact ⟨c (by simp only [lX]; omega) (by simp only [lY]; omega), c (by simp only [rX]; omega) (by simp only [rY]; omega)⟩
  | 3, _ => exact ⟨c (by simp only [lX]; omega) (by simp only [lY]; omega), c (by simp only [rX]; omega) (by simp only [rY]; omega)⟩
theorem step_bd (F : Int → Int → Bool) (s : Edge) (h : Bd F s) : Bd F (stepF F s) := by
  obtain ⟨hd, h1, h2⟩ := h
  obtain ⟨e1, e2, e3, e4⟩ := ahead F s.x s.y s.d hd _ _ rfl rfl
  rw [e3] at h1
  rw [e4] at h2
  obtain ⟨k1, k2, k3⟩ := corner_keep ⟨s.d, hd⟩ _ _ _ _ h1 h2
  have e : (stepF F s).d = nextD s.d (aL s.d (F (s.x + dX s.d) (s.y + dY s.d)) (F (s.x + dX s.d - 1) (s.y + dY s.d)) (F (s.x + dX s.d - 1) (s.y + dY s.d - 1)) (F (s.x + dX s.d) (s.y + dY s.d - 1))) (aR s.d (F (s.x + dX s.d) (s.y + dY s.d)) (F (s.x + dX s.d - 1) (s.y + dY s.d)) (F (s.x + dX s.d - 1) (s.y + dY s.d - 1)) (F (s.x + dX s.d) (s.y + dY s.d - 1))) := by
    show nextD s.d _ _ = _
    rw [e1, e2]
  have hd' : (stepF F s).d < 4 := by rw [e]; exact k1
  obtain ⟨l1, l2⟩ := leaving F (s.x + dX s.d) (s.y + dY s.d) (stepF F s).d hd'
  refine ⟨hd', ?_, ?_⟩
  · show F (s.x + dX s.d + lX (stepF F s).d) (s.y + dY s.d + lY (stepF F s).d) = true
    rw [l1, e]; exact k2
  · show F (s.x + dX s.d + rX (stepF F s).d) (s.y + dY s.d + rY (stepF F s).d) = false
    rw [l2, e]; exact k3
theorem step_inj (F : Int → Int → Bool) (s t : Edge) (hs : Bd F s) (ht : Bd F t) (h : stepF F s = stepF F t) : s = t := by
  obtain ⟨hd, h1, h2⟩ := hs
  obtain ⟨gd, g1, g2⟩ := ht
  have ex : s.x + dX s.d = t.x + dX t.d := congrArg Edge.x h
  have ey : s.y + dY s.d = t.y + dY t.d := congrArg Edge.y h
  have ed : nextD s.d _ _ = nextD t.d _ _ := congrArg Edge.d h
  obtain ⟨e1, e2, e3, e4⟩ := ahead F s.x s.y s.d hd _ _ rfl rfl
  obtain ⟨f1, f2, f3, f4⟩ := ahead F t.x t.y t.d gd (s.x + dX s.d) (s.y + dY s.d) ex ey
  rw [e3] at h1
  rw [e4] at h2
  rw [f3] at g1
  rw [f4] at g2
  rw [e1, e2, f1, f2] at ed
  have k := corner_inj ⟨s.d, hd⟩ ⟨t.d, gd⟩ _ _ _ _ h1 h2 g1 g2 ed
  have k : s.d = t.d := k
  rw [k] at ex ey
  exact Edge.ext' (by omega) (by omega) k
def roundF (F : Int → Int → Bool) (s : Edge) : Nat → Edge
  | 0 => s
  | i + 1 => stepF F (roundF F s i)
theorem round_bd (F : Int → Int → Bool) (s : Edge) (h : Bd F s) (i : Nat) : Bd F (roundF F s i) := by
  induction i with
  | zero => exact h
  | succ i ih => exact step_bd F _ ih
theorem round_back (F : Int → Int → Bool) (s : Edge) (h : Bd F s) : ∀ i k, roundF F s i = roundF F s (i + k) → s = roundF F s k := by
  intro i
  induction i with
  | zero => intro k e; rw [Nat.zero_add] at e; exact e
  | succ i ih =>
    intro k e
    rw [show i + 1 + k = (i + k) + 1 by omega] at e
    exact ih k (step_inj F _ _ (round_bd F s h i) (round_bd F s h (i + k)) e)
/-- Round an outline within a field of at most 24 by 24 cells: the corner where it began is met again, for the first time after so many edges. -/
theorem round_ends (F : Int → Int → Bool) (hF : ∀ a b, F a b = true → 0 ≤ a ∧ a < 24 ∧ 0 ≤ b ∧ b < 24) (s : Edge) (h : Bd F s) :
    ∃ T, 1 ≤ T ∧ T ≤ 2500 ∧ (roundF F s T).x = s.x ∧ (roundF F s T).y = s.y ∧ ∀ i, 1 ≤ i → i < T → ¬ ((roundF F s i).x = s.x ∧ (roundF F s i).y = s.y) := by
  have rng : ∀ i, 0 ≤ (roundF F s i).x ∧ (roundF F s i).x ≤ 24 ∧ 0 ≤ (roundF F s i).y ∧ (roundF F s i).y ≤ 24 ∧ (roundF F s i).d < 4 := by
    intro i
    obtain ⟨hd, h1, _⟩ := round_bd F s h i
    have := hF _ _ h1
    generalize roundF F s i = t at *
    obtain ⟨x, y, d⟩ := t
    match d, hd with
    | 0, _ => simp only [lX, lY] at this; dsimp only; omega
    | 1, _ => simp only [lX, lY] at this; dsimp only; omega
    | 2, _ => simp only [lX, lY] at this; dsimp only; omega
    | 3, _ => simp only [lX, lY] at this; dsimp only; omega
  obtain ⟨i, j, hij, hj, e⟩ := pigeon 2500 (fun i => ((roundF F s i).x.toNat * 25 + (roundF F s i).y.toNat) * 4 + (roundF F s i).d) (fun i _ => by have := rng i; omega)
  have hs : roundF F s i = roundF F s j := by
    have a := rng i; have b := rng j
    have e : ((roundF F s i).x.toNat * 25 + (roundF F s i).y.toNat) * 4 + (roundF F s i).d = ((roundF F s j).x.toNat * 25 + (roundF F s j).y.toNat) * 4 + (roundF F s j).d := e
    exact Edge.ext' (by omega) (by omega) (by omega)
  have hb := round_back F s h i (j - i) (by rw [show i + (j - i) = j by omega]; exact hs)
  obtain ⟨m, m1, ⟨m2, m3, m4⟩, m5⟩ := least_of (fun n => 1 ≤ n ∧ (roundF F s n).x = s.x ∧ (roundF F s n).y = s.y) (j - i) ⟨by omega, by rw [← hb], by rw [← hb]⟩
  exact ⟨m, m2, by omega, m3, m4, fun i h1 h2 g => m5 i h2 ⟨h1, g⟩⟩

/-! ### Contour, of both -/
def fullF (w h : Int) (l : List Int) (z x y : Int) : Bool := decide (0 ≤ x ∧ x < w ∧ 0 ≤ y ∧ y < h ∧ rd l (y * w + x) > z)
theorem at_ix {w h x y : Int} (hx : 0 ≤ x ∧ x < w) (hy : 0 ≤ y ∧ y < h) : 0 ≤ y * w ∧ 0 ≤ y * w + x ∧ y * w + x < w * h := by
  have h1 : 0 ≤ y * w := Int.mul_nonneg hy.1 (by omega)
  have h2 : y * w ≤ (h - 1) * w := Int.mul_le_mul_of_nonneg_right (by omega) (by omega)
  have h3 : (h - 1) * w = w * h - w := by rw [Int.sub_mul, Int.one_mul, Int.mul_comm]
  omega
theorem impl_full (w h : Int) (l : List Int) (z x y : Int) (hf : okField w h l = true) (hx : -100 ≤ x ∧ x ≤ 100) (hy : -100 ≤ y ∧ y ≤ 100) : impl_Contour_1.f x y w h l z = some (fullF w h l z x y) := by
  obtain ⟨f1, f2, f3, f4, f5, _⟩ := of_decide_eq_true hf
  unfold impl_Contour_1.f fullF
  by_cases c1 : x ≥ 0
  · rw [if_pos c1]
    by_cases c2 : x < w
    · rw [if_pos c2]
      by_cases c3 : y ≥ 0
      · rw [if_pos c3]
        by_cases c4 : y < h
        · obtain ⟨a1, a2, a3⟩ := at_ix ⟨c1, c2⟩ ⟨c3, c4⟩
          have b := bd_mul f1 f2 f3 f4
          rw [if_pos c4, wr (n := y * w) (by omega) (by omega), wr (n := y * w + x) (by omega) (by omega), if_pos a2, if_pos (by omega)]
          congr 1
          rw [Bool.eq_iff_iff, decide_eq_true_eq, decide_eq_true_eq]
          exact ⟨fun g => ⟨c1, c2, c3, c4, g⟩, fun g => g.2.2.2.2⟩
        · rw [if_neg c4, decide_eq_false (fun g => c4 g.2.2.2.1)]
      · rw [if_neg c3, decide_eq_false (fun g => c3 g.2.2.1)]
    · rw [if_neg c2, decide_eq_false (fun g => c2 g.2.1)]
  · rw [if_neg c1, decide_eq_false (fun g => c1 g.1)]
theorem spec_full (w h : Int) (l : List Int) (z x y : Int) (hf : okField w h l = true) (hx : -100 ≤ x ∧ x ≤ 100) (hy : -100 ≤ y ∧ y ≤ 100) : spec_l11Above.f w h l x y z = some (fullF w h l z x y) := by
  obtain ⟨f1, f2, f3, f4, f5, _⟩ := of_decide_eq_true hf
  unfold spec_l11Above.f fullF
  by_cases c1 : x ≥ 0
  · rw [if_pos c1]
    by_cases c3 : y ≥ 0
    · rw [if_pos c3]
      by_cases c2 : x < w
      · rw [if_pos c2]
        by_cases c4 : y < h
        · obtain ⟨a1, a2, a3⟩ := at_ix ⟨c1, c2⟩ ⟨c3, c4⟩
          have b := bd_mul f1 f2 f3 f4
          rw [if_pos c4, wr (n := y * w) (by omega) (by omega), wr (n := y * w + x) (by omega) (by omega), if_pos a2, if_pos (by omega)]
          congr 1
          rw [Bool.eq_iff_iff, decide_eq_true_eq, decide_eq_true_eq]
          exact ⟨fun g => ⟨c1, c2, c3, c4, g⟩, fun g => g.2.2.2.2⟩
        · rw [if_neg c4, decide_eq_false (fun g => c4 g.2.2.2.1)]
      · rw [if_neg c2, decide_eq_false (fun g => c2 g.2.1)]
    · rw [if_neg c3, decide_eq_false (fun g => c3 g.2.2.1)]
  · rw [if_neg c1, decide_eq_false (fun g => c1 g.1)]
/-- The first of the last k cells that is above. -/
def fstC (l : List Int) (z : Int) : Nat → Option Nat
  | 0 => none
  | k + 1 => if rd l ((l.length - (k + 1) : Nat) : Int) > z then some (l.length - (k + 1)) else fstC l z k
theorem fstC_some (l : List Int) (z : Int) : ∀ k i, k ≤ l.length → fstC l z k = some i → l.length - k ≤ i ∧ i < l.length ∧ rd l (i : Int) > z ∧ ∀ j, l.length - k ≤ j → j < i → ¬ rd l (j : Int) > z := by
  intro k
  induction k with
  | zero => intro i _ h; cases h
  | succ k ih =>
    intro i hk h
    unfold fstC at h
    split at h
    · rename_i c
      cases h
      exact ⟨Nat.le_refl _, by omega, c, fun j h1 h2 => by omega⟩
    · rename_i c
      obtain ⟨h1, h2, h3, h4⟩ := ih i (by omega) h
      refine ⟨by omega, h2, h3, fun j g1 g2 => ?_⟩
      by_cases e : j = l.length - (k + 1)
      · rw [e]; exact c
      · exact h4 j (by omega) g2
def ixOf : Option Nat → Int | none => -1 | some i => (i : Int)
def xOf (w : Nat) : Option Nat → Int | none => -1 | some i => ((i % w : Nat) : Int)
def yOf (w : Nat) : Option Nat → Int | none => 0 | some i => ((i / w : Nat) : Int)
theorem impl_first (w h : Int) (l : List Int) (z c : Int) (hl : l.length ≤ 1000) {r : List S43 × Int} (hr : Ev (fun k => impl_Contour.j2 k (ixOf (fstC l z l.length)) w h l z c) r) :
    Ev (fun k => impl_Contour.l0 k (-1) l (l.length : Int) 0 w h l z c) r := by
  have key : ∀ m, m ≤ l.length → Ev (fun k => impl_Contour.j2 k (ixOf (fstC l z m)) w h l z c) r → Ev (fun k => impl_Contour.l0 k (-1) l (l.length : Int) ((l.length - m : Nat) : Int) w h l z c) r := by
    intro m
    induction m with
    | zero =>
      intro _ h0
      refine ev_one (fun k => ?_) h0
      rw [impl_Contour.l0, if_neg (by omega)]; rfl
    | succ m ih =>
      intro hm h0
      unfold fstC at h0
      by_cases cc : rd l ((l.length - (m + 1) : Nat) : Int) > z
      · rw [if_pos cc] at h0
        refine ev_one (fun k => ?_) h0
        rw [impl_Contour.l0, if_pos (by omega), if_pos (by omega), if_pos (by omega), if_pos cc]; rfl
      · rw [if_neg cc] at h0
        refine ev_one (fun k => ?_) (ih (by omega) h0)
        rw [impl_Contour.l0, if_pos (by omega), if_pos (by omega), if_pos (by omega), if_neg cc, wr (by omega) (by omega)]
        congr 1; omega
  have := key l.length (Nat.le_refl _) hr
  rw [Nat.sub_self] at this
  exact this
theorem div_mod_at (y w x : Nat) (hx : x < w) : (y * w + x) % w = x ∧ (y * w + x) / w = y := by
  constructor
  · rw [Nat.add_comm, Nat.add_mul_mod_self_right, Nat.mod_eq_of_lt hx]
  · rw [Nat.add_comm, Nat.add_mul_div_right _ _ (by omega), Nat.div_eq_of_lt hx, Nat.zero_add]
theorem spec_rowC (w h : Nat) (l : List Int) (z : Int) (hf : okField (w : Int) (h : Int) l = true) (y : Nat) (hy : y < h) {r : List S43 × Int}
    (hr : Ev (fun k => spec_Contour.l0 k z ((y : Int) - 1) (w : Int) (h : Int) l (xOf w (fstC l z (l.length - y * w))) (yOf w (fstC l z (l.length - y * w)))) r) :
    ∀ m, m ≤ w → Ev (fun k => spec_Contour.l1 k z (y : Int) ((m : Int) - 1) (w : Int) (h : Int) l (xOf w (fstC l z (l.length - (y * w + m)))) (yOf w (fstC l z (l.length - (y * w + m))))) r := by
  obtain ⟨f1, f2, f3, f4, f5, _⟩ := of_decide_eq_true hf
  have hN : l.length = w * h := by have : (w : Int) * (h : Int) = ((w * h : Nat) : Int) := (Int.natCast_mul w h).symm; omega
  have hyw : y * w + w ≤ w * h := by have := Nat.mul_le_mul_right w hy; rw [Nat.succ_mul, Nat.mul_comm h w] at this; exact this
  intro m
  induction m with
  | zero =>
    intro _
    refine ev_one (fun k => ?_) hr
    rw [spec_Contour.l1, if_neg (by omega), wr (n := (y : Int) - 1) (by omega) (by omega)]
    rfl
  | succ m ih =>
    intro hm
    have ih := ih (by omega)
    have hF := spec_full (w : Int) (h : Int) l z (m : Int) (y : Int) hf (by omega) (by omega)
    have e1 : ((m + 1 : Nat) : Int) - 1 = (m : Int) := by omega
    have hstep : fstC l z (l.length - (y * w + m)) = if rd l ((y * w + m : Nat) : Int) > z then some (y * w + m) else fstC l z (l.length - (y * w + (m + 1))) := by
      have e : l.length - (y * w + m) = (l.length - (y * w + (m + 1))) + 1 := by omega
      rw [e]
      conv => lhs; unfold fstC
      have e2 : l.length - (l.length - (y * w + (m + 1)) + 1) = y * w + m := by omega
      rw [e2]
    have hfull : fullF (w : Int) (h : Int) l z (m : Int) (y : Int) = decide (rd l ((y * w + m : Nat) : Int) > z) := by
      unfold fullF
      have e : ((y * w + m : Nat) : Int) = (y : Int) * (w : Int) + (m : Int) := by rw [Int.natCast_add, Int.natCast_mul]
      rw [e, Bool.eq_iff_iff, decide_eq_true_eq, decide_eq_true_eq]
      exact ⟨fun g => g.2.2.2.2, fun g => ⟨by omega, by omega, by omega, by omega, g⟩⟩
    refine ev_one (fun k => ?_) ih
    rw [e1, spec_Contour.l1, if_pos (by omega), hF, Option.bind_some, hfull, wr (n := (m : Int) - 1) (by omega) (by omega)]
    by_cases cc : rd l ((y * w + m : Nat) : Int) > z
    · rw [decide_eq_true cc, if_pos rfl, hstep, if_pos cc]
      obtain ⟨d1, d2⟩ := div_mod_at y w m (by omega)
      simp only [xOf, yOf, d1, d2]
    · rw [decide_eq_false cc, if_neg (by simp), hstep, if_neg cc]
theorem spec_first (w h : Nat) (l : List Int) (z : Int) (hf : okField (w : Int) (h : Int) l = true) {r : List S43 × Int}
    (hr : Ev (fun k => spec_Contour.l0 k z (-1) (w : Int) (h : Int) l (xOf w (fstC l z l.length)) (yOf w (fstC l z l.length))) r) :
    Ev (fun k => spec_Contour.l0 k z ((h : Int) - 1) (w : Int) (h : Int) l (-1) 0) r := by
  obtain ⟨f1, f2, f3, f4, f5, _⟩ := of_decide_eq_true hf
  have hN : l.length = w * h := by have : (w : Int) * (h : Int) = ((w * h : Nat) : Int) := (Int.natCast_mul w h).symm; omega
  have key : ∀ m, m ≤ h → Ev (fun k => spec_Contour.l0 k z ((m : Int) - 1) (w : Int) (h : Int) l (xOf w (fstC l z (l.length - m * w))) (yOf w (fstC l z (l.length - m * w)))) r := by
    intro m
    induction m with
    | zero => intro _; rw [Nat.zero_mul, Nat.sub_zero]; exact hr
    | succ m ih =>
      intro hm
      have g := spec_rowC w h l z hf m (by omega) (ih (by omega)) w (Nat.le_refl _)
      refine ev_one (fun k => ?_) g
      have e1 : ((m + 1 : Nat) : Int) - 1 = (m : Int) := by omega
      rw [e1, spec_Contour.l0, if_pos (by omega), wr (n := (w : Int) - 1) (by omega) (by omega), Nat.succ_mul]
  have := key h (Nat.le_refl _)
  have e : l.length - h * w = 0 := by rw [hN, Nat.mul_comm]; omega
  rw [e] at this
  exact this
def DT : List S43 := [(⟨1, 0⟩ : S43), (⟨0, 1⟩ : S43), (⟨(-1), 0⟩ : S43), (⟨0, (-1)⟩ : S43)]
def LT_ : List S43 := [(⟨0, 0⟩ : S43), (⟨(-1), 0⟩ : S43), (⟨(-1), (-1)⟩ : S43), (⟨0, (-1)⟩ : S43)]
def RT_ : List S43 := [(⟨0, (-1)⟩ : S43), (⟨0, 0⟩ : S43), (⟨(-1), 0⟩ : S43), (⟨(-1), (-1)⟩ : S43)]
theorem tabs (d : Nat) (hd : d < 4) : rd_T43 DT (d : Int) = ⟨dX d, dY d⟩ ∧ rd_T43 LT_ (d : Int) = ⟨lX d, lY d⟩ ∧ rd_T43 RT_ (d : Int) = ⟨rX d, rY d⟩ := by
  match d, hd with
  | 0, _ => exact ⟨rfl, rfl, rfl⟩
  | 1, _ => exact ⟨rfl, rfl, rfl⟩
  | 2, _ => exact ⟨rfl, rfl, rfl⟩
  | 3, _ => exact ⟨rfl, rfl, rfl⟩
theorem dir_bd (d : Nat) : (-1 ≤ dX d ∧ dX d ≤ 1 ∧ -1 ≤ dY d ∧ dY d ≤ 1) ∧ (-1 ≤ lX d ∧ lX d ≤ 0 ∧ -1 ≤ lY d ∧ lY d ≤ 0) ∧ (-1 ≤ rX d ∧ rX d ≤ 0 ∧ -1 ≤ rY d ∧ rY d ≤ 0) := by
  match d with
  | 0 => simp only [dX, dY, lX, lY, rX, rY]; omega
  | 1 => simp only [dX, dY, lX, lY, rX, rY]; omega
  | 2 => simp only [dX, dY, lX, lY, rX, rY]; omega
  | _ + 3 => simp only [dX, dY, lX, lY, rX, rY]; omega
def outF (F : Int → Int → Bool) (s : Edge) : Nat → List S43
  | 0 => [⟨s.x, s.y⟩]
  | t + 1 => if (roundF F s (t + 1)).d = (roundF F s t).d then outF F s t else outF F s t ++ [⟨(roundF F s (t + 1)).x, (roundF F s (t + 1)).y⟩]
theorem outF_len (F : Int → Int → Bool) (s : Edge) (t : Nat) : (outF F s t).length ≤ t + 1 := by
  induction t with
  | zero => simp [outF]
  | succ t ih =>
    unfold outF
    split
    · omega
    · simp only [List.length_append, List.length_cons, List.length_nil]; omega
theorem next_cases (d : Nat) (hd : d < 4) (l r : Bool) : (l = false → nextD d l r = (d + 1) % 4 ∧ (d + 1) % 4 ≠ d) ∧ (l = true → r = true → nextD d l r = (d + 3) % 4 ∧ (d + 3) % 4 ≠ d) ∧ (l = true → r = false → nextD d l r = d) := by
  unfold nextD
  refine ⟨fun h => ?_, fun h g => ?_, fun h g => ?_⟩
  · rw [if_pos h]; exact ⟨rfl, by omega⟩
  · rw [if_neg (by rw [h]; simp), if_pos g]; exact ⟨rfl, by omega⟩
  · rw [if_neg (by rw [h]; simp), if_neg (by rw [g]; simp)]
theorem impl_round (w h : Int) (l : List Int) (z c : Int) (hf : okField w h l = true) (s : Edge) (T : Nat) (h1 : 1 ≤ T) (h2 : T ≤ 2500)
    (rng : ∀ i, 0 ≤ (roundF (fullF w h l z) s i).x ∧ (roundF (fullF w h l z) s i).x ≤ 24 ∧ 0 ≤ (roundF (fullF w h l z) s i).y ∧ (roundF (fullF w h l z) s i).y ≤ 24 ∧ (roundF (fullF w h l z) s i).d < 4)
    (e1 : (roundF (fullF w h l z) s T).x = s.x) (e2 : (roundF (fullF w h l z) s T).y = s.y) (ne : ∀ i, 1 ≤ i → i < T → ¬ ((roundF (fullF w h l z) s i).x = s.x ∧ (roundF (fullF w h l z) s i).y = s.y)) :
    ∀ m t, t + m + 1 = T → Ev (fun k => impl_Contour.l1 k DT LT_ RT_ ((roundF (fullF w h l z) s t).d : Int) (outF (fullF w h l z) s t) w h l z c (roundF (fullF w h l z) s t).x (roundF (fullF w h l z) s t).y s.x s.y) (outF (fullF w h l z) s (T - 1), (0 : Int)) := by
  intro m
  induction m with
  | zero =>
    intro t ht
    obtain rfl : T = t + 1 := by omega
    have a := rng t; have b := rng (t + 1)
    obtain ⟨t1, t2, t3⟩ := tabs _ a.2.2.2.2
    obtain ⟨q1, q2, q3⟩ := dir_bd (roundF (fullF w h l z) s t).d
    have x1 : (roundF (fullF w h l z) s (t + 1)).x = (roundF (fullF w h l z) s t).x + dX (roundF (fullF w h l z) s t).d := rfl
    have y1 : (roundF (fullF w h l z) s (t + 1)).y = (roundF (fullF w h l z) s t).y + dY (roundF (fullF w h l z) s t).d := rfl
    refine ev_some fun k => ?_
    rw [impl_Contour.l1, if_pos (by omega), if_pos (show ((roundF (fullF w h l z) s t).d : Int) < (DT.length : Int) by show _ < (4 : Int); omega), t1]
    simp only
    rw [wr (n := (roundF (fullF w h l z) s t).x + dX _) (by omega) (by omega), wr (n := (roundF (fullF w h l z) s t).y + dY _) (by omega) (by omega), ← x1, ← y1, e1, e2]
    simp
  | succ m ih =>
    intro t ht
    have a := rng t; have b := rng (t + 1)
    have hn := ne (t + 1) (by omega) (by omega)
    have ih := ih (t + 1) (by omega)
    have ol := outF_len (fullF w h l z) s t
    obtain ⟨t1, t2, t3⟩ := tabs _ a.2.2.2.2
    obtain ⟨q1, q2, q3⟩ := dir_bd (roundF (fullF w h l z) s t).d
    have x1 : (roundF (fullF w h l z) s (t + 1)).x = (roundF (fullF w h l z) s t).x + dX (roundF (fullF w h l z) s t).d := rfl
    have y1 : (roundF (fullF w h l z) s (t + 1)).y = (roundF (fullF w h l z) s t).y + dY (roundF (fullF w h l z) s t).d := rfl
    have d1 : (roundF (fullF w h l z) s (t + 1)).d = nextD (roundF (fullF w h l z) s t).d (fullF w h l z ((roundF (fullF w h l z) s (t + 1)).x + lX (roundF (fullF w h l z) s t).d) ((roundF (fullF w h l z) s (t + 1)).y + lY (roundF (fullF w h l z) s t).d)) (fullF w h l z ((roundF (fullF w h l z) s (t + 1)).x + rX (roundF (fullF w h l z) s t).d) ((roundF (fullF w h l z) s (t + 1)).y + rY (roundF (fullF w h l z) s t).d)) := rfl
    have o1 : outF (fullF w h l z) s (t + 1) = if (roundF (fullF w h l z) s (t + 1)).d = (roundF (fullF w h l z) s t).d then outF (fullF w h l z) s t else outF (fullF w h l z) s t ++ [⟨(roundF (fullF w h l z) s (t + 1)).x, (roundF (fullF w h l z) s (t + 1)).y⟩] := rfl
    generalize roundF (fullF w h l z) s t = e at *
    generalize roundF (fullF w h l z) s (t + 1) = e' at *
    have hL := impl_full w h l z (e'.x + lX e.d) (e'.y + lY e.d) hf (by omega) (by omega)
    have hR := impl_full w h l z (e'.x + rX e.d) (e'.y + rY e.d) hf (by omega) (by omega)
    obtain ⟨n1, n2, n3⟩ := next_cases e.d a.2.2.2.2 (fullF w h l z (e'.x + lX e.d) (e'.y + lY e.d)) (fullF w h l z (e'.x + rX e.d) (e'.y + rY e.d))
    have o2 : (e'.d ≠ e.d → outF (fullF w h l z) s (t + 1) = outF (fullF w h l z) s t ++ [⟨e'.x, e'.y⟩]) ∧ (e'.d = e.d → outF (fullF w h l z) s (t + 1) = outF (fullF w h l z) s t) := ⟨fun hh => by rw [o1, if_neg hh], fun hh => by rw [o1, if_pos hh]⟩
    clear o1
    generalize outF (fullF w h l z) s (t + 1) = O' at *
    generalize outF (fullF w h l z) s t = O at *
    have st : ∀ k, impl_Contour.l1 (k + 1) DT LT_ RT_ (e.d : Int) O w h l z c e.x e.y s.x s.y = (if fullF w h l z (e'.x + lX e.d) (e'.y + lY e.d) = true then (if fullF w h l z (e'.x + rX e.d) (e'.y + rY e.d) = true then (if O.length < 8796093022208 then (impl_Contour.j4 k DT LT_ RT_ (Int.tmod (wrap64 ((e.d : Int) + 3)) 4) (O ++ [⟨e'.x, e'.y⟩]) w h l z c e'.x e'.y s.x s.y) else none) else (impl_Contour.j4 k DT LT_ RT_ (e.d : Int) O w h l z c e'.x e'.y s.x s.y)) else (if O.length < 8796093022208 then (impl_Contour.j5 k DT LT_ RT_ (Int.tmod (wrap64 ((e.d : Int) + 1)) 4) (O ++ [⟨e'.x, e'.y⟩]) w h l z c e'.x e'.y s.x s.y) else none)) := by
      intro k
      rw [impl_Contour.l1, if_pos (by omega), if_pos (show (e.d : Int) < (DT.length : Int) by show _ < (4 : Int); omega), t1]
      simp only
      rw [wr (n := e.x + dX e.d) (by omega) (by omega), wr (n := e.y + dY e.d) (by omega) (by omega), ← x1, ← y1]
      have hb : ¬ (e'.x == s.x && e'.y == s.y) = true := by simpa using hn
      rw [if_neg hb, if_pos (show (e.d : Int) < (LT_.length : Int) by show _ < (4 : Int); omega), t2, wr (n := e'.x + lX e.d) (by omega) (by omega), wr (n := e'.y + lY e.d) (by omega) (by omega), hL, Option.bind_some, if_pos (show (e.d : Int) < (RT_.length : Int) by show _ < (4 : Int); omega), t3, wr (n := e'.x + rX e.d) (by omega) (by omega), wr (n := e'.y + rY e.d) (by omega) (by omega), hR, Option.bind_some]
    refine ev_one st ?_
    cases cl : fullF w h l z (e'.x + lX e.d) (e'.y + lY e.d) with
    | false =>
      obtain ⟨m1, m2⟩ := n1 cl
      have hd : (Int.tmod (wrap64 ((e.d : Int) + 1)) 4) = (e'.d : Int) := by
        rw [wr (by omega) (by omega), d1, m1, show (e.d : Int) + 1 = ((e.d + 1 : Nat) : Int) by omega]; exact Int.ofNat_tmod (e.d + 1) 4
      simp only [if_neg (show ¬ false = true by decide), if_pos (show O.length < 8796093022208 by omega), hd]
      rw [← o2.1 (by rw [d1, m1]; exact m2)]
      exact ev_one (fun k => by rw [impl_Contour.j5]) ih
    | true =>
      cases cr : fullF w h l z (e'.x + rX e.d) (e'.y + rY e.d) with
      | true =>
        obtain ⟨m1, m2⟩ := n2 cl cr
        have hd : (Int.tmod (wrap64 ((e.d : Int) + 3)) 4) = (e'.d : Int) := by
          rw [wr (by omega) (by omega), d1, m1, show (e.d : Int) + 3 = ((e.d + 3 : Nat) : Int) by omega]; exact Int.ofNat_tmod (e.d + 3) 4
        simp only [if_true, if_pos (show O.length < 8796093022208 by omega), hd]
        rw [← o2.1 (by rw [d1, m1]; exact m2)]
        refine ev_one (fun k => by rw [impl_Contour.j4]) ?_
        exact ev_one (fun k => by rw [impl_Contour.j5]) ih
      | false =>
        have m1 := n3 cl cr
        simp only [if_true, if_neg (show ¬ false = true by decide)]
        rw [← o2.2 (by rw [d1, m1]), show (e.d : Int) = (e'.d : Int) by rw [d1, m1]]
        refine ev_one (fun k => by rw [impl_Contour.j4]) ?_
        exact ev_one (fun k => by rw [impl_Contour.j5]) ih
theorem ahead_ev (x y : Int) (d : Nat) (hd : d < 4) (hx : -10 ≤ x ∧ x ≤ 100) (hy : -10 ≤ y ∧ y ≤ 100) (k : Nat) :
    spec_l11Ahead.f (k + 3) x y (dX d) (dY d) true = some (x + lX d, y + lY d) ∧ spec_l11Ahead.f (k + 3) x y (dX d) (dY d) false = some (x + rX d, y + rY d) := by
  have w1 : wrap64 (x - 1) = x + (-1) := by rw [wr (by omega) (by omega)]; omega
  have w2 : wrap64 (y - 1) = y + (-1) := by rw [wr (by omega) (by omega)]; omega
  have h1 : x = x + 0 := by omega
  have h2 : y = y + 0 := by omega
  match d, hd with
  | 0, _ => constructor <;> simp [spec_l11Ahead.f, spec_l11Ahead.j0, spec_l11Ahead.j1, spec_l11Ahead.j2, dX, dY, lX, lY, rX, rY, w1, w2]
  | 1, _ => constructor <;> simp [spec_l11Ahead.f, spec_l11Ahead.j0, spec_l11Ahead.j1, spec_l11Ahead.j2, dX, dY, lX, lY, rX, rY, w1, w2]
  | 2, _ => constructor <;> simp [spec_l11Ahead.f, spec_l11Ahead.j0, spec_l11Ahead.j1, spec_l11Ahead.j2, dX, dY, lX, lY, rX, rY, w1, w2]
  | 3, _ => constructor <;> simp [spec_l11Ahead.f, spec_l11Ahead.j0, spec_l11Ahead.j1, spec_l11Ahead.j2, dX, dY, lX, lY, rX, rY, w1, w2]
theorem turn_dirs (d : Nat) (hd : d < 4) : (wrap64 (-(dY d)) = dX ((d + 1) % 4) ∧ dX d = dY ((d + 1) % 4)) ∧ (dY d = dX ((d + 3) % 4) ∧ wrap64 (-(dX d)) = dY ((d + 3) % 4)) := by
  match d, hd with
  | 0, _ => exact ⟨⟨by rw [wr (by decide) (by decide)]; rfl, rfl⟩, rfl, by rw [wr (by decide) (by decide)]; rfl⟩
  | 1, _ => exact ⟨⟨by rw [wr (by decide) (by decide)]; rfl, rfl⟩, rfl, by rw [wr (by decide) (by decide)]; rfl⟩
  | 2, _ => exact ⟨⟨by rw [wr (by decide) (by decide)]; rfl, rfl⟩, rfl, by rw [wr (by decide) (by decide)]; rfl⟩
  | 3, _ => exact ⟨⟨by rw [wr (by decide) (by decide)]; rfl, rfl⟩, rfl, by rw [wr (by decide) (by decide)]; rfl⟩
theorem spec_round (w h : Int) (l : List Int) (z : Int) (hf : okField w h l = true) (s : Edge) (T : Nat) (h1 : 1 ≤ T) (h2 : T ≤ 2500)
    (rng : ∀ i, 0 ≤ (roundF (fullF w h l z) s i).x ∧ (roundF (fullF w h l z) s i).x ≤ 24 ∧ 0 ≤ (roundF (fullF w h l z) s i).y ∧ (roundF (fullF w h l z) s i).y ≤ 24 ∧ (roundF (fullF w h l z) s i).d < 4)
    (e1 : (roundF (fullF w h l z) s T).x = s.x) (e2 : (roundF (fullF w h l z) s T).y = s.y) (ne : ∀ i, 1 ≤ i → i < T → ¬ ((roundF (fullF w h l z) s i).x = s.x ∧ (roundF (fullF w h l z) s i).y = s.y)) :
    ∀ m t, t + m + 1 = T → Ev (fun k => spec_Contour.l2 k z (dX (roundF (fullF w h l z) s t).d) (dY (roundF (fullF w h l z) s t).d) (outF (fullF w h l z) s t) w h l s.x s.y (roundF (fullF w h l z) s t).x (roundF (fullF w h l z) s t).y) (outF (fullF w h l z) s (T - 1), (0 : Int)) := by
  intro m
  induction m with
  | zero =>
    intro t ht
    obtain rfl : T = t + 1 := by omega
    have a := rng t
    obtain ⟨q1, q2, q3⟩ := dir_bd (roundF (fullF w h l z) s t).d
    have x1 : (roundF (fullF w h l z) s (t + 1)).x = (roundF (fullF w h l z) s t).x + dX (roundF (fullF w h l z) s t).d := rfl
    have y1 : (roundF (fullF w h l z) s (t + 1)).y = (roundF (fullF w h l z) s t).y + dY (roundF (fullF w h l z) s t).d := rfl
    refine ev_some fun k => ?_
    rw [spec_Contour.l2, wr (n := (roundF (fullF w h l z) s t).x + dX _) (by omega) (by omega), wr (n := (roundF (fullF w h l z) s t).y + dY _) (by omega) (by omega), ← x1, ← y1, e1, e2]
    simp
  | succ m ih =>
    intro t ht
    have a := rng t; have b := rng (t + 1)
    have hn := ne (t + 1) (by omega) (by omega)
    have ih := ih (t + 1) (by omega)
    have ol := outF_len (fullF w h l z) s t
    obtain ⟨q1, q2, q3⟩ := dir_bd (roundF (fullF w h l z) s t).d
    have x1 : (roundF (fullF w h l z) s (t + 1)).x = (roundF (fullF w h l z) s t).x + dX (roundF (fullF w h l z) s t).d := rfl
    have y1 : (roundF (fullF w h l z) s (t + 1)).y = (roundF (fullF w h l z) s t).y + dY (roundF (fullF w h l z) s t).d := rfl
    have d1 : (roundF (fullF w h l z) s (t + 1)).d = nextD (roundF (fullF w h l z) s t).d (fullF w h l z ((roundF (fullF w h l z) s (t + 1)).x + lX (roundF (fullF w h l z) s t).d) ((roundF (fullF w h l z) s (t + 1)).y + lY (roundF (fullF w h l z) s t).d)) (fullF w h l z ((roundF (fullF w h l z) s (t + 1)).x + rX (roundF (fullF w h l z) s t).d) ((roundF (fullF w h l z) s (t + 1)).y + rY (roundF (fullF w h l z) s t).d)) := rfl
    have o1 : outF (fullF w h l z) s (t + 1) = if (roundF (fullF w h l z) s (t + 1)).d = (roundF (fullF w h l z) s t).d then outF (fullF w h l z) s t else outF (fullF w h l z) s t ++ [⟨(roundF (fullF w h l z) s (t + 1)).x, (roundF (fullF w h l z) s (t + 1)).y⟩] := rfl
    generalize roundF (fullF w h l z) s t = e at *
    generalize roundF (fullF w h l z) s (t + 1) = e' at *
    have hL := spec_full w h l z (e'.x + lX e.d) (e'.y + lY e.d) hf (by omega) (by omega)
    have hR := spec_full w h l z (e'.x + rX e.d) (e'.y + rY e.d) hf (by omega) (by omega)
    obtain ⟨n1, n2, n3⟩ := next_cases e.d a.2.2.2.2 (fullF w h l z (e'.x + lX e.d) (e'.y + lY e.d)) (fullF w h l z (e'.x + rX e.d) (e'.y + rY e.d))
    obtain ⟨⟨u1, u2⟩, u3, u4⟩ := turn_dirs e.d a.2.2.2.2
    have step : ∀ k, spec_Contour.l2 (k + 3 + 1) z (dX e.d) (dY e.d) (outF (fullF w h l z) s t) w h l s.x s.y e.x e.y = spec_Contour.l2 (k + 3) z (dX e'.d) (dY e'.d) (outF (fullF w h l z) s (t + 1)) w h l s.x s.y e'.x e'.y := by
      intro k
      obtain ⟨v1, v2⟩ := ahead_ev e'.x e'.y e.d a.2.2.2.2 (by omega) (by omega) k
      have hb : ¬ (e'.x == s.x && e'.y == s.y) = true := by simpa using hn
      rw [spec_Contour.l2, wr (n := e.x + dX e.d) (by omega) (by omega), wr (n := e.y + dY e.d) (by omega) (by omega), ← x1, ← y1, if_neg hb, v1, Option.bind_some, v2, Option.bind_some, hL, Option.bind_some]
      cases cl : fullF w h l z (e'.x + lX e.d) (e'.y + lY e.d) with
      | false =>
        obtain ⟨m1, m2⟩ := n1 cl
        rw [if_neg (by simp), if_pos (by omega), o1, if_neg (by rw [d1, m1]; exact m2), u1, u2, d1, m1]
      | true =>
        rw [if_pos rfl, hR, Option.bind_some]
        cases cr : fullF w h l z (e'.x + rX e.d) (e'.y + rY e.d) with
        | true =>
          obtain ⟨m1, m2⟩ := n2 cl cr
          rw [if_pos rfl, if_pos (by omega), o1, if_neg (by rw [d1, m1]; exact m2), u4, d1, m1, ← u3]
        | false =>
          have m1 := n3 cl cr
          rw [if_neg (by simp), o1, if_pos (by rw [d1, m1]), d1, m1]
    obtain ⟨K, hK⟩ := ih
    refine ⟨K + 4, fun k hk => ?_⟩
    obtain ⟨j, rfl⟩ : ∃ j, k = j + 3 + 1 := ⟨k - 4, by omega⟩
    show spec_Contour.l2 (j + 3 + 1) z (dX e.d) (dY e.d) (outF (fullF w h l z) s t) w h l s.x s.y e.x e.y = _
    rw [step j]
    exact hK (j + 3) (by omega)
theorem contour_both (w h : Int) (l : List Int) (z : Int) (hl : l.length ≤ 1048576) : ∃ r : List S43 × Int, r.1.length ≤ 2501 ∧ Ev (fun k => impl_Contour.f k w h l z) r ∧ Ev (fun k => spec_Contour.f k w h l z) r := by
  have a := impl_field w h l (by omega)
  have b := spec_field w h l (by omega)
  cases hf : okField w h l with
  | false =>
    rw [hf] at a b
    exact ⟨([], 1), by simp, by unfold impl_Contour.f; exact Ev.bind a (Ev.now _), by unfold spec_Contour.f; exact Ev.bind b (Ev.now _)⟩
  | true =>
    rw [hf] at a b
    by_cases hz : z < 0 ∨ z ≥ 24
    · refine ⟨([], 5), by simp, ?_, ?_⟩
      · unfold impl_Contour.f
        refine Ev.bind a ?_
        simp only [if_true]
        by_cases c : z < 0
        · simp only [if_pos c]; exact ev_some fun k => by rw [impl_Contour.j0, if_pos rfl]
        · simp only [if_neg c, decide_eq_true (show z ≥ 24 by omega)]; exact ev_some fun k => by rw [impl_Contour.j0, if_pos rfl]
      · unfold spec_Contour.f
        refine Ev.bind b ?_
        simp only [if_true]
        by_cases c : z < 0
        · simp only [if_pos c]; exact ev_some fun k => by rw [spec_Contour.j0, if_pos rfl]
        · simp only [if_neg c, decide_eq_true (show z ≥ 24 by omega)]; exact ev_some fun k => by rw [spec_Contour.j0, if_pos rfl]
    · obtain ⟨f1, f2, f3, f4, f5, _⟩ := of_decide_eq_true hf
      have hbm := bd_mul f1 f2 f3 f4
      obtain ⟨w, rfl⟩ : ∃ m : Nat, w = (m : Int) := ⟨w.toNat, by omega⟩
      obtain ⟨h, rfl⟩ : ∃ m : Nat, h = (m : Int) := ⟨h.toNat, by omega⟩
      have hN : l.length = w * h := by have : (w : Int) * (h : Int) = ((w * h : Nat) : Int) := (Int.natCast_mul w h).symm; omega
      have gi : ∀ {r}, Ev (fun k => impl_Contour.j2 k (ixOf (fstC l z l.length)) (w : Int) (h : Int) l z 0) r → Ev (fun k => impl_Contour.f k (w : Int) (h : Int) l z) r := by
        intro r hr
        unfold impl_Contour.f
        refine Ev.bind a ?_
        simp only [if_true, if_neg (show ¬ z < 0 by omega), decide_eq_false (show ¬ z ≥ 24 by omega)]
        refine ev_one (fun k => ?_) (impl_first (w : Int) (h : Int) l z 0 (by omega) hr)
        rw [impl_Contour.j0, if_neg (by simp)]
      have gs : ∀ {r}, Ev (fun k => spec_Contour.l0 k z (-1) (w : Int) (h : Int) l (xOf w (fstC l z l.length)) (yOf w (fstC l z l.length))) r → Ev (fun k => spec_Contour.f k (w : Int) (h : Int) l z) r := by
        intro r hr
        unfold spec_Contour.f
        refine Ev.bind b ?_
        simp only [if_true, if_neg (show ¬ z < 0 by omega), decide_eq_false (show ¬ z ≥ 24 by omega)]
        refine ev_one (fun k => ?_) (spec_first w h l z hf hr)
        rw [spec_Contour.j0, if_neg (by simp), wr (n := (h : Int) - 1) (by omega) (by omega)]
      cases hg : fstC l z l.length with
      | none =>
        rw [hg] at gi gs
        refine ⟨([], 8), by simp, gi (ev_some fun k => ?_), gs (ev_some fun k => ?_)⟩
        · rw [impl_Contour.j2, if_pos (show ixOf none < 0 by decide)]
        · rw [spec_Contour.l0, if_neg (by omega), if_pos (show xOf w none < 0 by show (-1 : Int) < 0; decide)]
      | some i =>
        rw [hg] at gi gs
        obtain ⟨_, i2, i3, i4⟩ := fstC_some l z l.length i (Nat.le_refl _) hg
        have hw : 0 < w := by omega
        have hmod : i % w < w := Nat.mod_lt _ hw
        have hdiv : i / w < h := by rw [Nat.div_lt_iff_lt_mul hw, Nat.mul_comm, ← hN]; exact i2
        have hsum : (i / w) * w + i % w = i := by rw [Nat.mul_comm]; exact Nat.div_add_mod i w
        generalize hXe : i % w = X at hmod hsum
        generalize hYe : i / w = Y at hdiv hsum
        let F := fullF (w : Int) (h : Int) l z
        let s : Edge := ⟨(X : Int), (Y : Int), 0⟩
        have hFb : ∀ p q, F p q = true → 0 ≤ p ∧ p < 24 ∧ 0 ≤ q ∧ q < 24 := by
          intro p q g
          obtain ⟨g1, g2, g3, g4, _⟩ := of_decide_eq_true g
          omega
        have hs : Bd F s := by
          refine ⟨by show (0 : Nat) < 4; omega, ?_, ?_⟩
          · show fullF (w : Int) (h : Int) l z ((X : Int) + 0) ((Y : Int) + 0) = true
            rw [Int.add_zero, Int.add_zero]
            refine decide_eq_true ⟨by omega, by omega, by omega, by omega, ?_⟩
            have e : (Y : Int) * (w : Int) + (X : Int) = (i : Int) := by rw [← Int.natCast_mul, ← Int.natCast_add, hsum]
            rw [e]; exact i3
          · show fullF (w : Int) (h : Int) l z ((X : Int) + 0) ((Y : Int) + (-1)) = false
            rw [Int.add_zero]
            refine decide_eq_false fun g => ?_
            obtain ⟨_, _, g3, _, g5⟩ := g
            have hd1 : 1 ≤ Y := by omega
            have h5 : w ≤ i := by
              have := Nat.mul_le_mul_right w hd1
              rw [Nat.one_mul] at this
              omega
            have e : ((Y : Int) + (-1)) * (w : Int) + (X : Int) = ((i - w : Nat) : Int) := by
              have h3 : ((Y : Int) + (-1)) * (w : Int) = (Y : Int) * (w : Int) - (w : Int) := by rw [Int.add_mul, Int.neg_mul, Int.one_mul]; omega
              have h4 : (Y : Int) * (w : Int) + (X : Int) = (i : Int) := by rw [← Int.natCast_mul, ← Int.natCast_add, hsum]
              omega
            rw [e] at g5
            exact i4 (i - w) (by omega) (by omega) g5
        obtain ⟨T, T1, T2, T3, T4, T5⟩ := round_ends F hFb s hs
        have rng : ∀ j, 0 ≤ (roundF F s j).x ∧ (roundF F s j).x ≤ 24 ∧ 0 ≤ (roundF F s j).y ∧ (roundF F s j).y ≤ 24 ∧ (roundF F s j).d < 4 := by
          intro j
          obtain ⟨hd, g1, _⟩ := round_bd F s hs j
          have := hFb _ _ g1
          obtain ⟨_, q2, _⟩ := dir_bd (roundF F s j).d
          omega
        have hi := impl_round (w : Int) (h : Int) l z 0 hf s T T1 T2 rng T3 T4 T5 (T - 1) 0 (by omega)
        have hsp := spec_round (w : Int) (h : Int) l z hf s T T1 T2 rng T3 T4 T5 (T - 1) 0 (by omega)
        have hx : xOf w (some i) = (X : Int) := congrArg (fun q : Nat => (q : Int)) hXe
        have hy : yOf w (some i) = (Y : Int) := congrArg (fun q : Nat => (q : Int)) hYe
        have t0 : ixOf (some i) = (i : Int) := rfl
        have t1 : Int.tmod (i : Int) (w : Int) = (X : Int) := (Int.ofNat_tmod i w).trans hx
        have t2 : Int.tdiv (i : Int) (w : Int) = (Y : Int) := (Int.ofNat_tdiv i w).trans hy
        refine ⟨(outF F s (T - 1), 0), by have := outF_len F s (T - 1); show (outF F s (T - 1)).length ≤ 2501; omega, gi (ev_one (fun k => ?_) hi), gs (ev_one (fun k => ?_) hsp)⟩
        · rw [impl_Contour.j2, t0, if_neg (by omega), if_neg (by omega), t1, t2, wr (n := (Y : Int)) (by omega) (by omega)]
          rfl
        · rw [spec_Contour.l0, if_neg (by omega), hx, hy, if_neg (by omega)]
          rfl

theorem FnExactContour : laws_FnExactContour.Plain := by
  intro w h l z _ _ hl _
  refine Ev.rounds ?_
  unfold laws_FnExactContour.f
  rw [sz_field w h l _ (by omega) (by omega) hl.1]
  simp only [Option.bind_some]
  by_cases hs : 1048576 - (l.length : Int) < 0
  · simp only [if_pos hs]; exact ev_const (by simp)
  simp only [if_neg hs]
  have hc := copy_field w h l (by omega)
  obtain ⟨⟨p, e⟩, hlen, ip, sp⟩ := contour_both w h l z (by omega)
  have hlen : p.length ≤ 2501 := hlen
  have so := same_pts p (by omega)
  refine Ev.bind hc ?_
  refine Ev.bind sp ?_
  refine Ev.bind hc ?_
  refine Ev.bind ip ?_
  refine Ev.bind so ?_
  simp only [if_true, bne_self_eq_false]
  obtain ⟨l', hm, _, _⟩ := mark_ints l.length (by omega) l.length 0 l (by omega) rfl (fun j hj => by omega)
  have hm : Ev (fun k => laws_markIntS.f k l 1) (1 + (l.length : Int), l') := hm
  have hm' : Ev (fun k => laws_markField.f k w h l 1) (1 + (l.length : Int), l') := by unfold laws_markField.f; exact Ev.bind hm (Ev.now _)
  obtain ⟨p', hp, hp1, hp2⟩ := mark_held_pts p.length (by omega) p.length 0 p (by omega) rfl (fun j hj => by omega)
  have hph := held_pts p' (by omega) (by rw [hp1]; exact hp2)
  rw [hp1] at hph
  have hp : Ev (fun k => laws_markPointS.f k p 1) (1 + 2 * (p.length : Int), p') := hp
  have j2 : Ev (fun k => laws_FnExactContour.j2 k p' (1 + 2 * (p.length : Int)) false) true := by
    refine ev_one (f := fun k => (laws_heldPointS.f k p' 1).bind fun t248 => (if t248 < 0 then (some false) else (if t248 = 1 + 2 * (p.length : Int) then (some true) else (some false)))) (fun k => by simp only [laws_FnExactContour.j2, Bool.false_eq_true, if_false]) ?_
    refine Ev.bind hph ?_
    simp only [if_neg (show ¬ 1 + 2 * (p.length : Int) < 0 by omega), if_true]
    exact Ev.now _
  refine ev_one (fun k => by simp only [laws_FnExactContour.j0, Bool.false_eq_true, if_false]; rfl) ?_
  refine Ev.bind hc ?_
  refine Ev.bind (same_field w h l (by omega)) ?_
  simp only [if_true]
  refine Ev.bind hm' ?_
  simp only [if_neg (show ¬ 1 + (l.length : Int) < 0 by omega)]
  refine Ev.bind so ?_
  simp only [if_true, bne_self_eq_false]
  refine ev_one (fun k => by simp only [laws_FnExactContour.j1, Bool.false_eq_true, if_false]; rfl) ?_
  refine Ev.bind hp ?_
  refine Ev.bind hph ?_
  simp only [if_neg (show ¬ 1 + 2 * (p.length : Int) < 0 by omega), if_true]
  refine Ev.bind hc ?_
  refine Ev.bind ip ?_
  refine Ev.bind so ?_
  simp only [if_true, bne_self_eq_false]
  exact j2
end Go.Proofs.Ytgmbbcnfcddamaa.Pure
