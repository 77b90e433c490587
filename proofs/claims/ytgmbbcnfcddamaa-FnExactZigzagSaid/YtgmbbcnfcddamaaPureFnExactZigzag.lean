/- FnExactZigzag over numbers and lists alone: the program's Zigzag and the reference's lay the same moves; what came back is held. -/
import Derived.Test.YtgmbbcnfcddamaaSFnExactZigzag
import Derived.Test.YtgmbbcnfcddamaaLib
import Derived.Test.YtgmbbcnfcddamaaSeenInt
namespace Go.Proofs.Ytgmbbcnfcddamaa.Pure
open Go.RowKit Go.Proofs.Ytgmbbcnfcddamaa.PFnExactZigzag Go.Proofs.YtgmbbcnfcddamaaW.PrintWords Go.Proofs.YtgmbbcnfcddamaaW.PrintLast Go.Proofs.Ytgmbbcnfcddamaa.Lib Go.Proofs.Ytgmbbcnfcddamaa.SeenInt
set_option linter.unusedVariables false
set_option linter.unusedSimpArgs false

def okCells (l : List Int) : Prop := ∀ i, i < l.length → (decide (0 ≤ rd l (i : Int) ∧ rd l (i : Int) ≤ 24)) = true
instance (l : List Int) : Decidable (okCells l) := by unfold okCells; exact inferInstance
def okField (w h : Int) (l : List Int) : Bool := decide (1 ≤ w ∧ w ≤ 24 ∧ 1 ≤ h ∧ h ≤ 24 ∧ (l.length : Int) = w * h ∧ okCells l)
theorem bd_mul {w h : Int} (h1 : 1 ≤ w) (h2 : w ≤ 24) (h3 : 1 ≤ h) (h4 : h ≤ 24) : 1 ≤ w * h ∧ w * h ≤ 576 := by
  constructor
  · have := Int.mul_le_mul h1 h3 (by omega) (by omega); omega
  · have := Int.mul_le_mul h2 h4 (by omega) (by omega); omega
theorem spec_field (w h : Int) (l : List Int) (hl : l.length ≤ 9223372036854775806) : Ev (fun k => spec_FieldOK.f k w h l) (okField w h l) := by
  have stop : okField w h l = false → Ev (fun k => spec_FieldOK.j0 k true w h l) (okField w h l) := fun h => by
    rw [h]; exact ev_some fun k => by simp only [spec_FieldOK.j0, if_true]
  unfold spec_FieldOK.f
  by_cases h1 : w < 1
  · simp only [if_pos h1]; exact stop (by simp only [okField, decide_eq_false_iff_not]; omega)
  · simp only [if_neg h1]
    by_cases h2 : w > 24
    · simp only [if_pos h2]; exact stop (by simp only [okField, decide_eq_false_iff_not]; omega)
    · simp only [if_neg h2]
      by_cases h3 : h < 1
      · simp only [if_pos h3]; exact stop (by simp only [okField, decide_eq_false_iff_not]; omega)
      · simp only [if_neg h3]
        by_cases h4 : h > 24
        · simp only [if_pos h4]; exact stop (by simp only [okField, decide_eq_false_iff_not]; omega)
        · simp only [if_neg h4]
          have hm := bd_mul (w := w) (h := h) (by omega) (by omega) (by omega) (by omega)
          rw [wr (by omega) (by omega)]
          by_cases h5 : (l.length : Int) = w * h
          · simp only [h5, bne_self_eq_false]
            refine ev_one (f := fun k => spec_FieldOK.l0 k 0 w h l) (fun k => by simp only [spec_FieldOK.j0]; rfl) ?_
            have := all_loop (r := true) (bad := false) (fun i k => spec_FieldOK.l0 k (i : Int) w h l) l.length (fun i => decide (0 ≤ rd l (i : Int) ∧ rd l (i : Int) ≤ 24)) (fun i hi hp => ⟨0, fun k _ => by
                show spec_FieldOK.l0 (k + 1) (i : Int) w h l = spec_FieldOK.l0 k ((i + 1 : Nat) : Int) w h l
                simp only [decide_eq_true_eq] at hp
                simp only [spec_FieldOK.l0]
                rw [if_pos (by omega), if_pos (by omega), if_neg (by omega), if_neg (by omega), wr_succ i (by omega)]⟩)
              (fun i hi hp => ev_some fun k => by
                show spec_FieldOK.l0 (k + 1) (i : Int) w h l = _
                simp only [decide_eq_false_iff_not] at hp
                simp only [spec_FieldOK.l0]
                rw [if_pos (by omega), if_pos (by omega)]
                by_cases h0 : rd l (i : Int) < 0
                · rw [if_pos h0]
                · rw [if_neg h0, if_pos (by omega)])
              (fun _ => ev_some fun k => by
                show spec_FieldOK.l0 (k + 1) (l.length : Int) w h l = _
                simp only [spec_FieldOK.l0]
                rw [if_neg (by omega)])
            have e : okField w h l = if okCells l then true else false := by
              unfold okField
              by_cases hc : okCells l
              · rw [if_pos hc, decide_eq_true_eq]; exact ⟨by omega, by omega, by omega, by omega, h5, hc⟩
              · rw [if_neg hc, decide_eq_false_iff_not]; exact fun h => hc h.2.2.2.2.2
            rw [e]
            exact this
          · have : ((l.length : Int) != w * h) = true := by simpa using h5
            simp only [this]; exact stop (by simp only [okField, decide_eq_false_iff_not]; exact fun h => h5 h.2.2.2.2.1)
theorem impl_field (w h : Int) (l : List Int) (hl : l.length ≤ 9223372036854775806) : Ev (fun k => impl_FieldOK.f k w h l) (okField w h l) := by
  have stop : okField w h l = false → Ev (fun k => impl_FieldOK.j0 k true w h l) (okField w h l) := fun h => by
    rw [h]; exact ev_some fun k => by simp only [impl_FieldOK.j0, if_true]
  unfold impl_FieldOK.f
  by_cases h1 : w < 1
  · simp only [if_pos h1]; exact stop (by simp only [okField, decide_eq_false_iff_not]; omega)
  · simp only [if_neg h1]
    by_cases h2 : w > 24
    · simp only [if_pos h2]; exact stop (by simp only [okField, decide_eq_false_iff_not]; omega)
    · simp only [if_neg h2]
      by_cases h3 : h < 1
      · simp only [if_pos h3]; exact stop (by simp only [okField, decide_eq_false_iff_not]; omega)
      · simp only [if_neg h3]
        by_cases h4 : h > 24
        · simp only [if_pos h4]; exact stop (by simp only [okField, decide_eq_false_iff_not]; omega)
        · simp only [if_neg h4]
          have hm := bd_mul (w := w) (h := h) (by omega) (by omega) (by omega) (by omega)
          rw [wr (by omega) (by omega)]
          by_cases h5 : (l.length : Int) = w * h
          · simp only [h5, bne_self_eq_false]
            refine ev_one (f := fun k => impl_FieldOK.l0 k l (l.length : Int) 0) (fun k => by simp only [impl_FieldOK.j0]; rfl) ?_
            have := all_loop (r := true) (bad := false) (fun i k => impl_FieldOK.l0 k l (l.length : Int) (i : Int)) l.length (fun i => decide (0 ≤ rd l (i : Int) ∧ rd l (i : Int) ≤ 24)) (fun i hi hp => ⟨0, fun k _ => by
                show impl_FieldOK.l0 (k + 1) l (l.length : Int) (i : Int) = impl_FieldOK.l0 k l (l.length : Int) ((i + 1 : Nat) : Int)
                simp only [decide_eq_true_eq] at hp
                simp only [impl_FieldOK.l0]
                rw [if_pos (by omega), if_pos (by omega), if_pos (by omega), if_neg (by omega), if_neg (by omega), wr_succ i (by omega)]⟩)
              (fun i hi hp => ev_some fun k => by
                show impl_FieldOK.l0 (k + 1) l (l.length : Int) (i : Int) = _
                simp only [decide_eq_false_iff_not] at hp
                simp only [impl_FieldOK.l0]
                rw [if_pos (by omega), if_pos (by omega), if_pos (by omega)]
                by_cases h0 : rd l (i : Int) < 0
                · rw [if_pos h0]
                · rw [if_neg h0, if_pos (by omega)])
              (fun _ => ev_some fun k => by
                show impl_FieldOK.l0 (k + 1) l (l.length : Int) (l.length : Int) = _
                simp only [impl_FieldOK.l0]
                rw [if_neg (by omega)])
            have e : okField w h l = if okCells l then true else false := by
              unfold okField
              by_cases hc : okCells l
              · rw [if_pos hc, decide_eq_true_eq]; exact ⟨by omega, by omega, by omega, by omega, h5, hc⟩
              · rw [if_neg hc, decide_eq_false_iff_not]; exact fun h => hc h.2.2.2.2.2
            rw [e]
            exact this
          · have : ((l.length : Int) != w * h) = true := by simpa using h5
            simp only [this]; exact stop (by simp only [okField, decide_eq_false_iff_not]; exact fun h => h5 h.2.2.2.2.1)

theorem sz_ints (l : List Int) (a : Int) (h0 : 0 ≤ a) (ha : a ≤ 1048576) (hl : l.length ≤ maxLen) : laws_szIntS.f l a = some (if a - (l.length : Int) < 0 then -1 else a - (l.length : Int)) := by
  unfold maxLen at hl
  unfold laws_szIntS.f
  rw [wr (by omega) (by omega)]
  split <;> rfl
theorem sz_field (w h : Int) (l : List Int) (a : Int) (h0 : 0 ≤ a) (ha : a ≤ 1048576) (hl : l.length ≤ maxLen) : laws_szField.f w h l a = some (if a - (l.length : Int) < 0 then -1 else a - (l.length : Int)) := by
  unfold laws_szField.f
  rw [sz_ints l a h0 ha hl]
  simp only [Option.bind_some]
  by_cases hh : a - (l.length : Int) < 0
  · simp only [if_pos hh]; rfl
  · simp only [if_neg hh]
theorem copy_ints (l : List Int) (h : l.length ≤ 1048576) : Ev (fun k => laws_toIntS.f k l) l := by
  have := copy_loop laws_toIntS.l0 (fun x : Int => x) 0 (fun k x0 x3 i h1 h2 => by
    simp only [laws_toIntS.l0]
    rw [if_pos (by omega), if_pos (by omega), if_pos (by omega)]
    rfl) (fun k x0 x3 => by simp only [laws_toIntS.l0]; rw [if_neg (by omega)]) l (by omega) (List.replicate l.length 0) (by simp)
  simp only [List.map_id'] at this
  unfold laws_toIntS.f
  simp only [show (0 : Int) ≤ (l.length : Int) from by omega, if_true, Int.toNat_natCast, show l.length ≤ 35184372088832 from by omega]
  exact this
theorem same_ints (l : List Int) (h : l.length ≤ 1048576) : Ev (fun k => laws_eqIntS.f k l l) true := by
  unfold laws_eqIntS.f
  simp only [if_true]
  exact same_loop laws_eqIntS.l0 l (fun k i hi => by
    simp only [laws_eqIntS.l0]
    rw [if_pos (by omega), if_pos (by omega), if_pos (by omega), if_pos trivial]) (fun k => by simp only [laws_eqIntS.l0]; rw [if_neg (by omega)]) (by omega)
theorem copy_field (w h : Int) (l : List Int) (hl : l.length ≤ 1048576) : Ev (fun k => laws_toField.f k w h l) (w, h, l) := by
  unfold laws_toField.f
  exact Ev.bind (copy_ints l hl) (Ev.now _)
theorem same_field (w h : Int) (l : List Int) (hl : l.length ≤ 1048576) : Ev (fun k => laws_eqField.f k w h l w h l) true := by
  unfold laws_eqField.f
  simp only [if_true]
  refine Ev.bind (same_ints l hl) ?_
  exact ev_const (by simp)

theorem mark_ints (n : Nat) (hn : n ≤ 1048576) : ∀ (m i : Nat) (x : List Int), i + m = n → x.length = n → (∀ j, j < i → rd x (j : Int) = 1 + (j : Int)) → ∃ x', Ev (fun k => laws_markIntS.l0 k x (1 + (i : Int)) (i : Int)) (1 + (n : Int), x') ∧ x'.length = n ∧ ∀ j, j < n → rd x' (j : Int) = 1 + (j : Int) := by
  intro m
  induction m with
  | zero =>
    intro i x hi hx hr
    obtain rfl : i = n := by omega
    exact ⟨x, ev_some fun k => by simp only [laws_markIntS.l0]; rw [if_neg (by omega)], hx, hr⟩
  | succ m ih =>
    intro i x hi hx hr
    obtain ⟨x', h, h1, h2⟩ := ih (i + 1) (x.set i (1 + (i : Int))) (by omega) (by simpa using hx) (fun j hj => by
      rw [rd_lt _ _ (by simp; omega), List.getElem_set]
      split
      · rename_i e; rw [e]
      · rw [← rd_lt _ _ (by omega)]; exact hr j (by omega))
    refine ⟨x', ev_one (fun k => ?_) h, h1, h2⟩
    simp only [laws_markIntS.l0]
    rw [if_pos (by omega), if_pos (by omega)]
    simp only [Int.toNat_natCast]
    rw [wr (n := 1 + (i : Int) + 1) (by omega) (by omega), wr_succ i (by omega)]
    congr 1

def mvAt (i : Nat) : S61 := ⟨(Int.tmod (1 + 4 * (i : Int)) 3) == 0, 2 + 4 * (i : Int), 3 + 4 * (i : Int), 4 + 4 * (i : Int)⟩
theorem mv_wraps {x : Int} (h0 : 0 ≤ x) (h1 : x ≤ 9000000000) : wrap64 (x + 1) = x + 1 ∧ wrap64 (x + 1 + 1) = x + 2 ∧ wrap64 (x + 2 + 1) = x + 3 ∧ wrap64 (x + 3 + 1) = x + 4 :=
  ⟨wr (by omega) (by omega), by rw [wr (by omega) (by omega)]; omega, by rw [wr (by omega) (by omega)]; omega, by rw [wr (by omega) (by omega)]; omega⟩
theorem rd_set_mv (l : List S61) (p : S61) (i j : Nat) (hl : i < l.length) : rd_T61 (l.set i p) (j : Int) = if i = j then p else rd_T61 l (j : Int) := by
  simp only [rd_T61, Int.toNat_natCast, List.getD_eq_getElem?_getD, List.getElem?_set]
  by_cases h : i = j
  · subst h; simp [hl]
  · simp [h]
theorem mark_held_moves (n : Nat) (hn : n ≤ 1048576) : ∀ (m i : Nat) (x : List S61), i + m = n → x.length = n → (∀ j, j < i → rd_T61 x (j : Int) = mvAt j) → ∃ x', Ev (fun k => laws_markMoveS.l0 k x (1 + 4 * (i : Int)) (i : Int)) (1 + 4 * (n : Int), x') ∧ x'.length = n ∧ ∀ j, j < n → rd_T61 x' (j : Int) = mvAt j := by
  intro m
  induction m with
  | zero =>
    intro i x hi hx hr
    obtain rfl : i = n := by omega
    exact ⟨x, ev_some fun k => by simp only [laws_markMoveS.l0]; rw [if_neg (by omega)], hx, hr⟩
  | succ m ih =>
    intro i x hi hx hr
    obtain ⟨x', h, h1, h2⟩ := ih (i + 1) (x.set i (mvAt i)) (by omega) (by simpa using hx) (fun j hj => by
      rw [rd_set_mv x _ i j (by omega)]
      by_cases e : i = j
      · rw [if_pos e, e]
      · rw [if_neg e]; exact hr j (by omega))
    refine ⟨x', ev_one (fun k => ?_) h, h1, h2⟩
    obtain ⟨w1, w2, w3, w4⟩ := mv_wraps (x := 1 + 4 * (i : Int)) (by omega) (by omega)
    simp only [laws_markMoveS.l0]
    rw [if_pos (by omega), if_pos (by omega)]
    simp only [Option.bind_some, Int.toNat_natCast, w1, w2, w3, w4, List.length_set, rd_set_mv _ _ i i (show i < (x.set i _).length by simp; omega), rd_set_mv x _ i i (by omega), if_true, List.set_set]
    rw [wr_succ i (by omega), show 1 + 4 * (i : Int) + 4 = 1 + 4 * ((i + 1 : Nat) : Int) by omega]
    congr 2
    unfold mvAt
    rw [show 1 + 4 * (i : Int) + 1 = 2 + 4 * (i : Int) by omega, show 1 + 4 * (i : Int) + 2 = 3 + 4 * (i : Int) by omega, show 1 + 4 * (i : Int) + 3 = 4 + 4 * (i : Int) by omega]
theorem held_moves (x : List S61) (hn : x.length ≤ 1048576) (h : ∀ j, j < x.length → rd_T61 x (j : Int) = mvAt j) : Ev (fun k => laws_heldMoveS.f k x 1) (1 + 4 * (x.length : Int)) := by
  have := ev_run0 (r := 1 + 4 * (x.length : Int)) (fun i k => laws_heldMoveS.l0 k x (1 + 4 * (i : Int)) (i : Int)) x.length (fun i hi k => by
    show laws_heldMoveS.l0 (k + 1) x (1 + 4 * (i : Int)) (i : Int) = laws_heldMoveS.l0 k x (1 + 4 * ((i + 1 : Nat) : Int)) ((i + 1 : Nat) : Int)
    have hh := h i hi
    obtain ⟨w1, w2, w3, w4⟩ := mv_wraps (x := 1 + 4 * (i : Int)) (by omega) (by omega)
    simp only [laws_heldMoveS.l0, hh, mvAt, w1, w2, w3, w4, bne_self_eq_false, Bool.false_eq_true, if_false]
    rw [if_pos (by omega), if_pos (by omega), if_pos (by omega), if_pos (by omega), if_pos (by omega), wr_succ i (by omega), show 1 + 4 * (i : Int) + 4 = 1 + 4 * ((i + 1 : Nat) : Int) by omega]) (ev_some fun k => by
    show laws_heldMoveS.l0 (k + 1) x (1 + 4 * (x.length : Int)) (x.length : Int) = _
    simp only [laws_heldMoveS.l0]; rw [if_neg (by omega)])
  simpa [laws_heldMoveS.f] using this
theorem same_moves (l : List S61) (h : l.length ≤ 1048576) : Ev (fun k => laws_eqMoveS.f k l l) true := by
  unfold laws_eqMoveS.f
  simp only [if_true]
  exact same_loop laws_eqMoveS.l0 l (fun k i hi => by
    simp only [laws_eqMoveS.l0, laws_eqMove.f, bne_self_eq_false, Bool.false_eq_true, if_false, if_true, Option.bind_some]
    rw [if_pos (by omega), if_pos (by omega), if_pos (by omega)]) (fun k => by simp only [laws_eqMoveS.l0]; rw [if_neg (by omega)]) (by omega)

theorem mn_comm (a b : Int) : mn a b = mn b a := by rw [mn_eq, mn_eq]; omega
theorem mx_comm (a b : Int) : mx a b = mx b a := by rw [mx_eq, mx_eq]; omega
theorem tool_eq : ∀ k : Nat, (∀ r x y o b w h l, impl_tool.l0 k r x y o b w h l = spec_l10Columns.l0 k r x y o b w h l) ∧ (∀ r x y o b a w h l, impl_tool.l1 k r x y o b a w h l = spec_l10Columns.l1 k r x y o b a w h l) := by
  intro k
  induction k with
  | zero => exact ⟨fun _ _ _ _ _ _ _ _ => rfl, fun _ _ _ _ _ _ _ _ _ => rfl⟩
  | succ k ih =>
    obtain ⟨i0, i1⟩ := ih
    refine ⟨fun r x y o b w h l => ?_, fun r x y o b a w h l => ?_⟩
    · simp only [impl_tool.l0, spec_l10Columns.l0, i1]; rw [mn_comm, mx_comm]
    · simp only [impl_tool.l1, spec_l10Columns.l1, i0, i1]; rw [mn_comm]
theorem tool_f (k : Nat) (w h : Int) (l : List Int) (r x y : Int) : impl_tool.f k w h l r x y = spec_l10Columns.f k w h l r x y := by
  unfold impl_tool.f spec_l10Columns.f; rw [(tool_eq k).1, mx_comm]
/-- The columns under a tool: a list of right indices. -/
structure Dim (W H : Nat) (r : Int) : Prop where
  w1 : 1 ≤ W
  w2 : W ≤ 24
  h1 : 1 ≤ H
  h2 : H ≤ 24
  r0 : 0 ≤ r
  r1 : r ≤ 3
def inW (W H : Nat) (o : List Int) : Prop := ∀ c ∈ o, 0 ≤ c ∧ c < ((W * H : Nat) : Int)
theorem idx_lt {W H x y : Nat} (hx : x < W) (hy : y < H) : y * W + x < W * H := by
  have : (y + 1) * W ≤ H * W := Nat.mul_le_mul_right _ hy
  rw [Nat.succ_mul] at this
  rw [Nat.mul_comm W H]; omega
theorem idx_w {W H x y : Nat} {r : Int} (d : Dim W H r) (hx : x < W) (hy : y < H) : wrap64 (wrap64 ((y : Int) * (W : Int)) + (x : Int)) = ((y * W + x : Nat) : Int) ∧ y * W + x < 576 := by
  have := idx_lt hx hy
  have m : W * H ≤ 24 * 24 := Nat.mul_le_mul d.w2 d.h2
  have e : ((y : Int) * (W : Int)) = ((y * W : Nat) : Int) := by push_cast; rfl
  rw [e, wr (n := ((y * W : Nat) : Int)) (by omega) (by omega), wr (by omega) (by omega)]
  exact ⟨by push_cast; rfl, by omega⟩
theorem cols_in {W H : Nat} {r : Int} (d : Dim W H r) (l : List Int) (x y : Nat) (hx : x < W) (hy : y < H) (b : Nat) (hb : b < H)
    (next : ∀ o, inW W H o → o.length ≤ 24 * (b + 1) → ∃ cs, Ev (fun k => spec_l10Columns.l0 k r (x : Int) (y : Int) o ((b + 1 : Nat) : Int) (W : Int) (H : Int) l) cs ∧ inW W H cs ∧ cs.length ≤ 576) :
    ∀ (m a : Nat) (o : List Int), a + m = W → inW W H o → o.length ≤ 24 * b + a → ∃ cs, Ev (fun k => spec_l10Columns.l1 k r (x : Int) (y : Int) o (b : Int) (a : Int) (W : Int) (H : Int) l) cs ∧ inW W H cs ∧ cs.length ≤ 576 := by
  obtain ⟨w1, w2, h1, h2, r0, r1⟩ := d
  have e : mn (wrap64 ((x : Int) + r)) (wrap64 ((W : Int) - 1)) = min ((x : Int) + r) ((W : Int) - 1) := by
    rw [wr (by omega) (by omega), wr (by omega) (by omega), mn_eq]
  intro m
  induction m with
  | zero =>
    intro a o ha ho hl
    obtain ⟨cs, h, h', h''⟩ := next o ho (by omega)
    refine ⟨cs, ev_one (fun k => ?_) h, h', h''⟩
    simp only [spec_l10Columns.l1, e]
    rw [if_neg (by omega), wr_succ b (by omega)]
  | succ m ih =>
    intro a o ha ho hl
    by_cases hc : (a : Int) ≤ min ((x : Int) + r) ((W : Int) - 1)
    · by_cases hq : (wrap64 ((wrap64 ((wrap64 ((a : Int) - (x : Int))) * (wrap64 ((a : Int) - (x : Int))))) + (wrap64 ((wrap64 ((b : Int) - (y : Int))) * (wrap64 ((b : Int) - (y : Int))))))) ≤ (wrap64 (r * r))
      · have ham : a < W := by clear hq e hc; omega
        have hol : o.length < 17592186044416 := by clear hq e hc; omega
        have has : a < 9223372036854775807 := by clear hq e hc; omega
        have ha1 : a + 1 + m = W := by clear hq e hc; omega
        have hl1 : (o ++ [((b * W + a : Nat) : Int)]).length ≤ 24 * b + (a + 1) := by clear hq e hc; rw [List.length_append]; simp only [List.length_singleton]; omega
        have hi := idx_w (W := W) (H := H) (x := a) (y := b) ⟨w1, w2, h1, h2, r0, r1⟩ ham hb
        have hlt := idx_lt (W := W) (H := H) (x := a) (y := b) ham hb
        obtain ⟨cs, h, h', h''⟩ := ih (a + 1) (o ++ [((b * W + a : Nat) : Int)]) ha1 (fun c hc => by
          rcases List.mem_append.1 hc with h | h
          · exact ho c h
          · rw [List.mem_singleton] at h; rw [h]; exact ⟨Int.natCast_nonneg _, Int.ofNat_lt.2 hlt⟩) hl1
        refine ⟨cs, ev_one (fun k => ?_) h, h', h''⟩
        simp only [spec_l10Columns.l1, e]
        rw [if_pos hc, if_pos hq, if_pos hol, wr_succ a has, hi.1]
      · obtain ⟨cs, h, h', h''⟩ := ih (a + 1) o (by omega) ho (by omega)
        refine ⟨cs, ev_one (fun k => ?_) h, h', h''⟩
        simp only [spec_l10Columns.l1, e]
        rw [if_pos hc, if_neg hq, wr_succ a (by omega)]
    · obtain ⟨cs, h, h', h''⟩ := next o ho (by omega)
      refine ⟨cs, ev_one (fun k => ?_) h, h', h''⟩
      simp only [spec_l10Columns.l1, e]
      rw [if_neg hc, wr_succ b (by omega)]
theorem cols_out {W H : Nat} {r : Int} (d : Dim W H r) (l : List Int) (x y : Nat) (hx : x < W) (hy : y < H) :
    ∀ (m b : Nat) (o : List Int), b + m = H → inW W H o → o.length ≤ 24 * b → ∃ cs, Ev (fun k => spec_l10Columns.l0 k r (x : Int) (y : Int) o (b : Int) (W : Int) (H : Int) l) cs ∧ inW W H cs ∧ cs.length ≤ 576 := by
  have d' := d
  obtain ⟨w1, w2, h1, h2, r0, r1⟩ := d'
  have e : mn (wrap64 ((y : Int) + r)) (wrap64 ((H : Int) - 1)) = min ((y : Int) + r) ((H : Int) - 1) := by
    rw [wr (by omega) (by omega), wr (by omega) (by omega), mn_eq]
  intro m
  induction m with
  | zero =>
    intro b o hb ho hl
    refine ⟨o, ev_some fun k => ?_, ho, by omega⟩
    simp only [spec_l10Columns.l0, e]
    rw [if_neg (by omega)]
  | succ m ih =>
    intro b o hb ho hl
    by_cases hc : (b : Int) ≤ min ((y : Int) + r) ((H : Int) - 1)
    · have ea : mx (wrap64 ((x : Int) - r)) 0 = (((x : Int) - r).toNat : Int) := by rw [wr (by omega) (by omega), mx_eq]; omega
      have hlt : ((x : Int) - r).toNat ≤ W := by omega
      obtain ⟨cs, h, h', h''⟩ := cols_in d l x y hx hy b (by omega) (fun o' ho' hl' => ih (b + 1) o' (by omega) ho' (by omega)) (W - ((x : Int) - r).toNat) ((x : Int) - r).toNat o (by omega) ho (by omega)
      refine ⟨cs, ev_one (fun k => ?_) h, h', h''⟩
      simp only [spec_l10Columns.l0, e]
      rw [if_pos hc, ea]
    · refine ⟨o, ev_some fun k => ?_, ho, by omega⟩
      simp only [spec_l10Columns.l0, e]
      rw [if_neg hc]
theorem cols_ev {W H : Nat} {r : Int} (d : Dim W H r) (l : List Int) (x y : Nat) (hx : x < W) (hy : y < H) :
    ∃ cs, Ev (fun k => spec_l10Columns.f k (W : Int) (H : Int) l r (x : Int) (y : Int)) cs ∧ inW W H cs ∧ cs.length ≤ 576 := by
  have d' := d
  obtain ⟨w1, w2, h1, h2, r0, r1⟩ := d'
  have ea : mx (wrap64 ((y : Int) - r)) 0 = (((y : Int) - r).toNat : Int) := by rw [wr (by omega) (by omega), mx_eq]; omega
  unfold spec_l10Columns.f
  rw [ea]
  exact cols_out d l x y hx hy (H - ((y : Int) - r).toNat) _ [] (by omega) (fun c hc => by cases hc) (by simp)
open Classical in
noncomputable def colsOf (W H : Nat) (r : Int) (l : List Int) (x y : Nat) : List Int :=
  if h : ∃ cs, Ev (fun k => spec_l10Columns.f k (W : Int) (H : Int) l r (x : Int) (y : Int)) cs ∧ inW W H cs ∧ cs.length ≤ 576 then Classical.choose h else []
theorem colsOf_ok {W H : Nat} {r : Int} (d : Dim W H r) (l : List Int) (x y : Nat) (hx : x < W) (hy : y < H) :
    Ev (fun k => spec_l10Columns.f k (W : Int) (H : Int) l r (x : Int) (y : Int)) (colsOf W H r l x y) ∧ inW W H (colsOf W H r l x y) ∧ (colsOf W H r l x y).length ≤ 576 := by
  have h := cols_ev d l x y hx hy
  unfold colsOf
  rw [dif_pos h]
  exact Classical.choose_spec h
/-- The highest cell under a tool, of the first i of its columns. -/
def part (l cs : List Int) : Nat → Int
  | 0 => 0
  | i + 1 => mx (part l cs i) (rd l (rd cs (i : Int)))
noncomputable def lowAt (W H : Nat) (r : Int) (l : List Int) (i : Nat) : Int := part l (colsOf W H r l (i % W) (i / W)) (colsOf W H r l (i % W) (i / W)).length
noncomputable def lowL (W H : Nat) (r : Int) (l : List Int) (n : Nat) : List Int := (List.range n).map (lowAt W H r l)
theorem lowL_succ (W H : Nat) (r : Int) (l : List Int) (n : Nat) : lowL W H r l (n + 1) = lowL W H r l n ++ [lowAt W H r l n] := by simp [lowL, List.range_succ]
theorem lowL_len (W H : Nat) (r : Int) (l : List Int) (n : Nat) : (lowL W H r l n).length = n := by simp [lowL]
theorem lowAt_xy {W H : Nat} (r : Int) (l : List Int) {x y : Nat} (hx : x < W) : lowAt W H r l (y * W + x) = part l (colsOf W H r l x y) (colsOf W H r l x y).length := by
  have h1 : (y * W + x) % W = x := by rw [Nat.add_comm, Nat.add_mul_mod_self_right, Nat.mod_eq_of_lt hx]
  have h2 : (y * W + x) / W = y := by rw [Nat.add_comm, Nat.add_mul_div_right _ _ (by omega), Nat.div_eq_of_lt hx]; omega
  unfold lowAt; rw [h1, h2]
theorem spec_part {W H : Nat} {r : Int} (d : Dim W H r) (l : List Int) (hl : l.length = W * H) (cs : List Int) (hc : inW W H cs) (hn : cs.length ≤ 576) (o : List Int) (ho : o.length < 1000) (x y : Nat) (hx : x < W) {q : List Int}
    (h : Ev (fun k => spec_l10Lowest.l1 k r (o ++ [part l cs cs.length]) (y : Int) ((x + 1 : Nat) : Int) (W : Int) (H : Int) l) q) :
    Ev (fun k => spec_l10Lowest.l2 k r o (y : Int) (x : Int) 0 cs 0 (W : Int) (H : Int) l) q := by
  obtain ⟨w1, w2, h1, h2, r0, r1⟩ := d
  exact ev_run0 (fun i k => spec_l10Lowest.l2 k r o (y : Int) (x : Int) (part l cs i) cs (i : Int) (W : Int) (H : Int) l) cs.length (fun i hi k => by
    show spec_l10Lowest.l2 (k + 1) r o (y : Int) (x : Int) (part l cs i) cs (i : Int) (W : Int) (H : Int) l = spec_l10Lowest.l2 k r o (y : Int) (x : Int) (part l cs (i + 1)) cs ((i + 1 : Nat) : Int) (W : Int) (H : Int) l
    have hm := hc _ (rd_mem (i := (i : Int)) (by omega) (by omega))
    simp only [spec_l10Lowest.l2]
    rw [if_pos (by omega), if_pos (by omega), if_pos hm.1, if_pos (by omega), wr_succ i (by omega)]
    rfl) (ev_one (fun k => by
    show spec_l10Lowest.l2 (k + 1) r o (y : Int) (x : Int) (part l cs cs.length) cs (cs.length : Int) (W : Int) (H : Int) l = _
    simp only [spec_l10Lowest.l2]
    rw [if_neg (by omega), if_pos (by omega), wr_succ x (by omega)]) h)
theorem spec_low {W H : Nat} {r : Int} (d : Dim W H r) (l : List Int) (hl : l.length = W * H) : Ev (fun k => spec_l10Lowest.f k (W : Int) (H : Int) l r) (lowL W H r l (W * H)) := by
  have d' := d
  obtain ⟨w1, w2, h1, h2, r0, r1⟩ := d'
  have hWH : W * H ≤ 24 * 24 := Nat.mul_le_mul w2 h2
  have key := ev_steps (r := lowL W H r l (W * H)) (fun y k => spec_l10Lowest.l0 k r (lowL W H r l (y * W)) (y : Int) (W : Int) (H : Int) l) H (fun y hy h => by
    have h : Ev (fun k => spec_l10Lowest.l0 k r (lowL W H r l ((y + 1) * W)) ((y + 1 : Nat) : Int) (W : Int) (H : Int) l) _ := h
    refine ev_one (f := fun k => spec_l10Lowest.l1 k r (lowL W H r l (y * W)) (y : Int) 0 (W : Int) (H : Int) l) (fun k => by simp only [spec_l10Lowest.l0]; rw [if_pos (by omega)]) ?_
    exact ev_steps (fun x k => spec_l10Lowest.l1 k r (lowL W H r l (y * W + x)) (y : Int) (x : Int) (W : Int) (H : Int) l) W (fun x hx h' => by
      have h' : Ev (fun k => spec_l10Lowest.l1 k r (lowL W H r l (y * W + x + 1)) (y : Int) ((x + 1 : Nat) : Int) (W : Int) (H : Int) l) _ := h'
      obtain ⟨c1, c2, c3⟩ := colsOf_ok d l x y hx hy
      have hi := idx_lt hx hy
      rw [lowL_succ, lowAt_xy r l hx] at h'
      have hp := spec_part d l hl _ c2 c3 (lowL W H r l (y * W + x)) (by rw [lowL_len]; omega) x y hx h'
      refine ev_one (f := fun k => (spec_l10Columns.f k (W : Int) (H : Int) l r (x : Int) (y : Int)).bind fun t117 => (spec_l10Lowest.l2 k r (lowL W H r l (y * W + x)) (y : Int) (x : Int) 0 t117 0 (W : Int) (H : Int) l)) (fun k => by simp only [spec_l10Lowest.l1]; rw [if_pos (by omega)]) ?_
      exact Ev.bind c1 hp) (ev_one (fun k => by
        show spec_l10Lowest.l1 (k + 1) r (lowL W H r l (y * W + W)) (y : Int) (W : Int) (W : Int) (H : Int) l = _
        simp only [spec_l10Lowest.l1]
        rw [if_neg (by omega), wr_succ y (by omega), ← Nat.succ_mul]) h)) (ev_some fun k => by
    show spec_l10Lowest.l0 (k + 1) r (lowL W H r l (H * W)) (H : Int) (W : Int) (H : Int) l = _
    simp only [spec_l10Lowest.l0]
    rw [if_neg (by omega), Nat.mul_comm])
  simpa [spec_l10Lowest.f, lowL] using key
theorem rd_mid (A B : List Int) (p : Int) (n : Nat) (h : A.length = n) : rd (A ++ p :: B) (n : Int) = p := by
  rw [rd_lt _ _ (by simp; omega), List.getElem_append_right (by omega)]; simp [h]
theorem set_mid (A B : List Int) (p q : Int) (n : Nat) (h : A.length = n) : (A ++ p :: B).set n q = A ++ q :: B := by
  rw [List.set_append_right _ _ (by omega), h, Nat.sub_self]; rfl
theorem impl_part {W H : Nat} {r : Int} (d : Dim W H r) (l : List Int) (hl : l.length = W * H) (cs : List Int) (hc : inW W H cs) (hn : cs.length ≤ 576) (x y : Nat) (hx : x < W) (hy : y < H) (A B : List Int) (hA : A.length = y * W + x) {q : List Int}
    (h : Ev (fun k => impl_lowest.l1 k r (A ++ part l cs cs.length :: B) (y : Int) ((x + 1 : Nat) : Int) (W : Int) (H : Int) l) q) :
    Ev (fun k => impl_lowest.l2 k r (A ++ 0 :: B) (y : Int) (x : Int) cs (cs.length : Int) 0 (W : Int) (H : Int) l) q := by
  obtain ⟨iw, ib⟩ := idx_w d hx hy
  obtain ⟨w1, w2, h1, h2, r0, r1⟩ := d
  exact ev_run0 (fun i k => impl_lowest.l2 k r (A ++ part l cs i :: B) (y : Int) (x : Int) cs (cs.length : Int) (i : Int) (W : Int) (H : Int) l) cs.length (fun i hi k => by
    show impl_lowest.l2 (k + 1) r (A ++ part l cs i :: B) (y : Int) (x : Int) cs (cs.length : Int) (i : Int) (W : Int) (H : Int) l = impl_lowest.l2 k r (A ++ part l cs (i + 1) :: B) (y : Int) (x : Int) cs (cs.length : Int) ((i + 1 : Nat) : Int) (W : Int) (H : Int) l
    have hm := hc _ (rd_mem (i := (i : Int)) (by omega) (by omega))
    simp only [impl_lowest.l2, iw, Int.toNat_natCast]
    rw [if_pos (by omega), if_pos (by omega), if_pos (by omega), if_pos (by omega), if_pos (by simp; omega), if_pos hm.1, if_pos (by omega), wr_succ i (by omega), rd_mid _ _ _ _ hA, set_mid _ _ _ _ _ hA]
    rfl) (ev_one (fun k => by
    show impl_lowest.l2 (k + 1) r (A ++ part l cs cs.length :: B) (y : Int) (x : Int) cs (cs.length : Int) (cs.length : Int) (W : Int) (H : Int) l = _
    simp only [impl_lowest.l2]
    rw [if_neg (by omega), wr_succ x (by omega)]) h)
theorem impl_low {W H : Nat} {r : Int} (d : Dim W H r) (l : List Int) (hl : l.length = W * H) : Ev (fun k => impl_lowest.f k (W : Int) (H : Int) l r) (lowL W H r l (W * H)) := by
  have d' := d
  obtain ⟨w1, w2, h1, h2, r0, r1⟩ := d'
  have hWH : W * H ≤ 24 * 24 := Nat.mul_le_mul w2 h2
  have eW : ((W : Int) * (H : Int)) = ((W * H : Nat) : Int) := by push_cast; rfl
  unfold impl_lowest.f
  rw [eW, wr (n := ((W * H : Nat) : Int)) (by omega) (by omega)]
  simp only [show (0 : Int) ≤ ((W * H : Nat) : Int) by omega, Int.toNat_natCast, show W * H ≤ 35184372088832 by omega, if_true]
  have key := ev_steps (r := lowL W H r l (W * H)) (fun y k => impl_lowest.l0 k r (lowL W H r l (y * W) ++ List.replicate (W * H - y * W) 0) (y : Int) (W : Int) (H : Int) l) H (fun y hy h => by
    have h : Ev (fun k => impl_lowest.l0 k r (lowL W H r l ((y + 1) * W) ++ List.replicate (W * H - (y + 1) * W) 0) ((y + 1 : Nat) : Int) (W : Int) (H : Int) l) _ := h
    refine ev_one (f := fun k => impl_lowest.l1 k r (lowL W H r l (y * W) ++ List.replicate (W * H - y * W) 0) (y : Int) 0 (W : Int) (H : Int) l) (fun k => by simp only [impl_lowest.l0]; rw [if_pos (by omega)]) ?_
    exact ev_steps (fun x k => impl_lowest.l1 k r (lowL W H r l (y * W + x) ++ List.replicate (W * H - (y * W + x)) 0) (y : Int) (x : Int) (W : Int) (H : Int) l) W (fun x hx h' => by
      have h' : Ev (fun k => impl_lowest.l1 k r (lowL W H r l (y * W + x + 1) ++ List.replicate (W * H - (y * W + x + 1)) 0) (y : Int) ((x + 1 : Nat) : Int) (W : Int) (H : Int) l) _ := h'
      obtain ⟨c1, c2, c3⟩ := colsOf_ok d l x y hx hy
      have hi := idx_lt hx hy
      rw [lowL_succ, lowAt_xy r l hx, List.append_assoc] at h'
      have hp := impl_part d l hl _ c2 c3 x y hx hy (lowL W H r l (y * W + x)) _ (by rw [lowL_len]) h'
      show Ev (fun k => impl_lowest.l1 k r (lowL W H r l (y * W + x) ++ List.replicate (W * H - (y * W + x)) 0) (y : Int) (x : Int) (W : Int) (H : Int) l) _
      rw [show W * H - (y * W + x) = (W * H - (y * W + x + 1)) + 1 by omega, List.replicate_succ]
      refine ev_one (f := fun k => (spec_l10Columns.f k (W : Int) (H : Int) l r (x : Int) (y : Int)).bind fun t165 => (impl_lowest.l2 k r (lowL W H r l (y * W + x) ++ 0 :: List.replicate (W * H - (y * W + x + 1)) 0) (y : Int) (x : Int) t165 (t165.length : Int) 0 (W : Int) (H : Int) l)) (fun k => by simp only [impl_lowest.l1, tool_f]; rw [if_pos (by omega)]) ?_
      exact Ev.bind c1 hp) (ev_one (fun k => by
        show impl_lowest.l1 (k + 1) r (lowL W H r l (y * W + W) ++ List.replicate (W * H - (y * W + W)) 0) (y : Int) (W : Int) (W : Int) (H : Int) l = _
        simp only [impl_lowest.l1]
        rw [if_neg (by omega), wr_succ y (by omega), ← Nat.succ_mul]) h)) (ev_some fun k => by
    show impl_lowest.l0 (k + 1) r (lowL W H r l (H * W) ++ List.replicate (W * H - H * W) 0) (H : Int) (W : Int) (H : Int) l = _
    simp only [impl_lowest.l0]
    rw [if_neg (by omega), Nat.mul_comm H W, Nat.sub_self]; simp)
  simpa [lowL] using key

/-- What a walk has at hand: the stock's tops, the moves, the last row that was stood on. -/
structure St where
  t : List Int
  m : List S61
  y : Int
def takes (z : Int) (cs t : List Int) : Bool := cs.any fun c => decide (rd t c > z)
def cut (z : Int) (cs t : List Int) : List Int := cs.foldl (fun t c => t.set c.toNat (mn (rd t c) z)) t
def four (x : Int) (o y z : Int) : List S61 := [(⟨true, x, o, 24⟩ : S61), (⟨true, x, y, 24⟩ : S61), (⟨false, x, y, z⟩ : S61), (⟨true, x, y, 24⟩ : S61)]
theorem cut_len (z : Int) (cs : List Int) : ∀ t, (cut z cs t).length = t.length := by
  induction cs with
  | nil => intro t; rfl
  | cons c cs ih => intro t; show (cut z cs _).length = _; rw [ih, List.length_set]
theorem set_rd (t : List Int) (c : Int) (h0 : 0 ≤ c) (h : c < (t.length : Int)) : t.set c.toNat (rd t c) = t := by
  obtain ⟨n, rfl⟩ : ∃ n : Nat, c = (n : Int) := ⟨c.toNat, by omega⟩
  rw [rd_lt t n (by omega), Int.toNat_natCast, List.set_getElem_self]
theorem mn_lo {a z : Int} (h : a > z) : mn a z = z := by rw [mn_eq]; omega
theorem mn_hi {a z : Int} (h : ¬ a > z) : mn a z = a := by rw [mn_eq]; omega
theorem cut_none (z : Int) (cs : List Int) : ∀ t : List Int, (∀ c ∈ cs, 0 ≤ c ∧ c < (t.length : Int)) → takes z cs t = false → cut z cs t = t := by
  induction cs with
  | nil => intro t _ _; rfl
  | cons c cs ih =>
    intro t hc h
    have hh : ¬ rd t c > z ∧ takes z cs t = false := by simpa [takes] using h
    have e : t.set c.toNat (mn (rd t c) z) = t := by rw [mn_hi hh.1]; exact set_rd t c (hc c (by simp)).1 (hc c (by simp)).2
    show cut z cs (t.set c.toNat (mn (rd t c) z)) = t
    rw [e]
    exact ih t (fun c h => hc c (by simp [h])) hh.2
section
variable {W H : Nat} {r : Int} (l : List Int)
noncomputable def stpI (W H : Nat) (r : Int) (l : List Int) (x y : Nat) (z : Int) (s : St) : St :=
  ⟨cut z (colsOf W H r l x y) s.t, if takes z (colsOf W H r l x y) s.t = true then s.m ++ four x s.y y z else s.m, if takes z (colsOf W H r l x y) s.t = true then (y : Int) else s.y⟩
noncomputable def stpS (W H : Nat) (r : Int) (l : List Int) (x y : Nat) (z : Int) (s : St) : St :=
  if takes z (colsOf W H r l x y) s.t = true then (if (s.m.length : Int) > 2000 then s else ⟨cut z (colsOf W H r l x y) s.t, s.m ++ four x s.y y z, (y : Int)⟩) else s
/-- The program's closure, by columns. -/
theorem impl_cut (x y z oy : Int) (m : List S61) (hm : m.length < 1000000) (cs : List Int) (hn : cs.length ≤ 576) : ∀ (suf pre t : List Int) (b : Bool), pre ++ suf = cs → (∀ c ∈ cs, 0 ≤ c ∧ c < (t.length : Int)) →
    Ev (fun k => impl_Zigzag_1.l0 k x y z b cs (cs.length : Int) (pre.length : Int) t m oy) ((if (b || takes z suf t) = true then y else oy), (if (b || takes z suf t) = true then m ++ four x oy y z else m), cut z suf t) := by
  intro suf
  induction suf with
  | nil =>
    intro pre t b hp hc
    have hl : pre.length = cs.length := by rw [← hp]; simp
    refine ev_some fun k => ?_
    simp only [impl_Zigzag_1.l0, hl]
    rw [if_neg (by omega)]
    cases b
    · simp [takes, cut]
    · simp only [takes, List.any_nil, Bool.or_false, if_true, Option.bind_some, four, List.length_cons, List.length_nil]
      rw [if_pos (by omega)]; rfl
  | cons c suf ih =>
    intro pre t b hp hc
    have hlt : pre.length < cs.length := by rw [← hp]; simp
    have e : rd cs (pre.length : Int) = c := by
      rw [rd_lt _ _ hlt]
      simp [← hp]
    have hcc := hc c (by rw [← hp]; simp)
    by_cases hz : rd t c > z
    · have h := ih (pre ++ [c]) (t.set c.toNat z) true (by rw [← hp]; simp) (fun c h => by rw [List.length_set]; exact hc c h)
      have t1 : takes z (c :: suf) t = true := by simp [takes, hz]
      have t2 : cut z (c :: suf) t = cut z suf (t.set c.toNat z) := by show cut z suf (t.set c.toNat (mn (rd t c) z)) = _; rw [mn_lo hz]
      rw [t1, t2]
      simp only [Bool.or_true, Bool.true_or, if_true] at h ⊢
      refine ev_one (fun k => ?_) h
      simp only [impl_Zigzag_1.l0, e]
      rw [if_pos (by omega), if_pos (by omega), if_pos (by omega), if_pos hcc.1, if_pos hcc.2, if_pos hz, wr_succ _ (by omega), List.length_append]
      rfl
    · have h := ih (pre ++ [c]) t b (by rw [← hp]; simp) hc
      have t1 : takes z (c :: suf) t = takes z suf t := by simp [takes, hz]
      have t2 : cut z (c :: suf) t = cut z suf t := by show cut z suf (t.set c.toNat (mn (rd t c) z)) = _; rw [mn_hi hz, set_rd t c hcc.1 hcc.2]
      rw [t1, t2]
      refine ev_one (fun k => ?_) h
      simp only [impl_Zigzag_1.l0, e]
      rw [if_pos (by omega), if_pos (by omega), if_pos (by omega), if_pos hcc.1, if_pos hcc.2, if_neg hz, wr_succ _ (by omega), List.length_append]
      rfl
theorem impl_stand (d : Dim W H r) (x y : Nat) (hx : x < W) (hy : y < H) (z : Int) (s : St) (ht : s.t.length = W * H) (hm : s.m.length < 1000000) :
    Ev (fun k => impl_Zigzag_1.f k (x : Int) (y : Int) z (W : Int) (H : Int) l r s.t s.m s.y) ((stpI W H r l x y z s).y, (stpI W H r l x y z s).m, (stpI W H r l x y z s).t) := by
  obtain ⟨c1, c2, c3⟩ := colsOf_ok d l x y hx hy
  unfold impl_Zigzag_1.f
  refine Ev.bind (Ev.congr (fun k => tool_f k _ _ l r _ _) c1) ?_
  have h := impl_cut (x : Int) (y : Int) z s.y s.m hm (colsOf W H r l x y) c3 (colsOf W H r l x y) [] s.t false rfl (fun c h => by rw [ht]; exact c2 c h)
  simpa [stpI] using h
/-- The reference's: first whether it takes something .. -/
theorem spec_takes (x y z : Int) (s : St) (cs : List Int) (hn : cs.length ≤ 576) (hc : ∀ c ∈ cs, 0 ≤ c ∧ c < (s.t.length : Int)) {q : Int × List S61 × List Int} {a b : Int} {l : List Int} {r : Int} (h : Ev (fun k => spec_l11Run_stand.j1 k x y z cs (if takes z cs s.t = true then decide ((s.m.length : Int) > 2000) else true) a b l r s.t s.y s.m) q) : ∀ (suf pre : List Int) (f : Bool), pre ++ suf = cs → (f || takes z suf s.t) = takes z cs s.t →
    Ev (fun k => spec_l11Run_stand.l0 k x y z cs f (pre.length : Int) a b l r s.t s.y s.m) q := by
  intro suf
  induction suf with
  | nil =>
    intro pre f hp hf
    have hl : pre.length = cs.length := by rw [← hp]; simp
    have hf : f = takes z cs s.t := by rw [← hf]; simp [takes]
    refine ev_one (fun k => ?_) h
    simp only [spec_l11Run_stand.l0, hl]
    rw [if_neg (by omega), hf]
    cases takes z cs s.t <;> simp
  | cons c suf ih =>
    intro pre f hp hf
    have hlt : pre.length < cs.length := by rw [← hp]; simp
    have e : rd cs (pre.length : Int) = c := by
      rw [rd_lt _ _ hlt]
      simp [← hp]
    have hcc := hc c (by rw [← hp]; simp)
    have hl : ((pre ++ [c]).length : Int) = (pre.length : Int) + 1 := by simp
    cases f with
    | true =>
      refine ev_one (fun k => ?_) (ih (pre ++ [c]) true (by rw [← hp]; simp) (by simpa using hf))
      simp only [spec_l11Run_stand.l0, if_true]
      rw [if_pos (by omega), wr_succ _ (by omega), List.length_append]
      rfl
    | false =>
      refine ev_one (fun k => ?_) (ih (pre ++ [c]) (decide (rd s.t c > z)) (by rw [← hp]; simp) (by rw [← hf]; simp [takes]))
      simp only [spec_l11Run_stand.l0, e, Bool.false_eq_true, if_false]
      rw [if_pos (by omega), if_pos (by omega), if_pos hcc.1, if_pos hcc.2, wr_succ _ (by omega), List.length_append]
      rfl
/-- .. then the cut. -/
theorem spec_cut (x y z o : Int) (m : List S61) (hm : m.length < 1000000) (cs : List Int) (hn : cs.length ≤ 576) (a b : Int) (l : List Int) (r : Int) : ∀ (suf pre t : List Int), pre ++ suf = cs → (∀ c ∈ cs, 0 ≤ c ∧ c < (t.length : Int)) →
    Ev (fun k => spec_l11Run_stand.l1 k x y z cs (pre.length : Int) a b l r t o m) (y, m ++ four x o y z, cut z suf t) := by
  intro suf
  induction suf with
  | nil =>
    intro pre t hp hc
    have hl : pre.length = cs.length := by rw [← hp]; simp
    refine ev_some fun k => ?_
    simp only [spec_l11Run_stand.l1, hl]
    rw [if_neg (by omega)]
    simp only [Option.bind_some, List.length_cons, List.length_nil]
    rw [if_pos (by omega)]; rfl
  | cons c suf ih =>
    intro pre t hp hc
    have hlt : pre.length < cs.length := by rw [← hp]; simp
    have e : rd cs (pre.length : Int) = c := by
      rw [rd_lt _ _ hlt]
      simp [← hp]
    have hcc := hc c (by rw [← hp]; simp)
    refine ev_one (fun k => ?_) (ih (pre ++ [c]) (t.set c.toNat (mn (rd t c) z)) (by rw [← hp]; simp) (fun c h => by rw [List.length_set]; exact hc c h))
    simp only [spec_l11Run_stand.l1, e]
    rw [if_pos (by omega), if_pos (by omega), if_pos hcc.1, if_pos hcc.2, wr_succ _ (by omega), List.length_append]
    rfl
theorem spec_stand (d : Dim W H r) (x y : Nat) (hx : x < W) (hy : y < H) (z : Int) (s : St) (ht : s.t.length = W * H) (hm : s.m.length < 1000000) (u : Int) :
    Ev (fun k => spec_l11Run_stand.f k u (x : Int) (y : Int) z (W : Int) (H : Int) l r s.t s.y s.m) ((stpS W H r l x y z s).y, (stpS W H r l x y z s).m, (stpS W H r l x y z s).t) := by
  obtain ⟨c1, c2, c3⟩ := colsOf_ok d l x y hx hy
  unfold spec_l11Run_stand.f
  refine Ev.bind c1 ?_
  have hc : ∀ c ∈ colsOf W H r l x y, 0 ≤ c ∧ c < (s.t.length : Int) := fun c h => by rw [ht]; exact c2 c h
  refine spec_takes (x : Int) (y : Int) z s _ c3 hc ?_ (colsOf W H r l x y) [] false rfl rfl
  unfold stpS
  by_cases h1 : takes z (colsOf W H r l x y) s.t = true
  · simp only [h1, if_true]
    by_cases h2 : (s.m.length : Int) > 2000
    · simp only [h2, if_true, decide_true]
      exact ev_some fun k => by simp only [spec_l11Run_stand.j1, if_true]
    · simp only [h2, if_false, decide_false]
      exact ev_one (fun k => by simp only [spec_l11Run_stand.j1, Bool.false_eq_true, if_false]; rfl) (spec_cut (x : Int) (y : Int) z s.y s.m hm _ c3 _ _ l r (colsOf W H r l x y) [] s.t rfl hc)
  · simp only [h1, if_false]
    exact ev_some fun k => by simp [spec_l11Run_stand.j1]
end
/-- The walks: one after the other. -/
def iter (f : Nat → St → St) : Nat → St → St
  | 0, s => s
  | n + 1, s => f n (iter f n s)
structure Ok (N n : Nat) (s : St) : Prop where
  t : s.t.length = N
  m : s.m.length ≤ 1 + 4 * n
theorem iter_ok {f : Nat → St → St} {N a : Nat} : ∀ (i : Nat) (h : ∀ j s n, j < i → Ok N n s → Ok N (n + a) (f j s)) (n : Nat) (s : St), Ok N n s → Ok N (n + i * a) (iter f i s) := by
  intro i
  induction i with
  | zero => intro _ n s h; simpa [iter] using h
  | succ i ih =>
    intro h n s hs
    have := h i _ _ (by omega) (ih (fun j s n hj => h j s n (by omega)) n s hs)
    rw [Nat.add_assoc, ← Nat.succ_mul] at this
    exact this
def Rel (s s' : St) : Prop := s = s' ∨ (2000 < s.m.length ∧ 2000 < s'.m.length)
theorem iter_rel {f f' : Nat → St → St} {N : Nat} : ∀ (i : Nat) (h : ∀ j s s', j < i → Rel s s' → s.t.length = N → Rel (f j s) (f' j s') ∧ (f j s).t.length = N) (s s' : St), Rel s s' → s.t.length = N → Rel (iter f i s) (iter f' i s') ∧ (iter f i s).t.length = N := by
  intro i
  induction i with
  | zero => intro _ s s' h ht; exact ⟨h, ht⟩
  | succ i ih =>
    intro h s s' hs ht
    obtain ⟨h1, h2⟩ := ih (fun j s s' hj => h j s s' (by omega)) s s' hs ht
    exact h i _ _ (by omega) h1 h2

section
variable {W H : Nat} {r : Int} (l : List Int)
def xOf (W y i : Nat) : Nat := if Int.tmod (y : Int) 2 = 1 then W - 1 - i else i
theorem xOf_lt {W y i : Nat} (h : i < W) : xOf W y i < W := by unfold xOf; split <;> omega
noncomputable def vA (W H : Nat) (r : Int) (l : List Int) (stp : Nat → Nat → Int → St → St) (z : Int) (y i : Nat) (s : St) : St :=
  if rd (lowL W H r l (W * H)) ((y * W + xOf W y i : Nat) : Int) ≤ z then stp (xOf W y i) y z s else s
noncomputable def levA (W H : Nat) (r : Int) (l : List Int) (stp : Nat → Nat → Int → St → St) (s : St) (z : Int) : St := iter (fun y => iter (vA W H r l stp z y) W) H s
noncomputable def vB (W H : Nat) (r : Int) (l : List Int) (stp : Nat → Nat → Int → St → St) (lv : List Int) (y x : Nat) (s : St) : St :=
  if inI lv (rd (lowL W H r l (W * H)) ((y * W + x : Nat) : Int)) = true then s else stp x y (rd (lowL W H r l (W * H)) ((y * W + x : Nat) : Int)) s
noncomputable def allB (W H : Nat) (r : Int) (l : List Int) (stp : Nat → Nat → Int → St → St) (lv : List Int) (s : St) : St := iter (fun y => iter (vB W H r l stp lv y) W) H s
def fin (s : St) : List S61 × Int := if (s.m.length : Int) > 2000 then ([], 18) else (s.m, 0)
theorem stpI_ok {N n : Nat} (x y : Nat) (z : Int) (s : St) (h : Ok N n s) : Ok N (n + 1) (stpI W H r l x y z s) := by
  refine ⟨by show (cut z _ s.t).length = N; rw [cut_len]; exact h.t, ?_⟩
  have := h.m
  show (if takes z (colsOf W H r l x y) s.t = true then s.m ++ four x s.y y z else s.m).length ≤ 1 + 4 * (n + 1)
  split
  · rw [List.length_append]; show s.m.length + 4 ≤ _; omega
  · omega
theorem stpS_ok {N n : Nat} (x y : Nat) (z : Int) (s : St) (h : Ok N n s) : Ok N (n + 1) (stpS W H r l x y z s) := by
  have hm := h.m
  unfold stpS
  split
  · split
    · exact ⟨h.t, by omega⟩
    · refine ⟨by show (cut z _ s.t).length = N; rw [cut_len]; exact h.t, ?_⟩
      show (s.m ++ four x s.y y z).length ≤ 1 + 4 * (n + 1)
      rw [List.length_append]; show s.m.length + 4 ≤ _; omega
  · exact ⟨h.t, by omega⟩
/-- What is asked of a walk's step. -/
structure Good (W H : Nat) (stp : Nat → Nat → Int → St → St) : Prop where
  ok : ∀ {n : Nat} (x y : Nat) (z : Int) (s : St), Ok (W * H) n s → Ok (W * H) (n + 1) (stp x y z s)
theorem goodI : Good W H (stpI W H r l) := ⟨fun x y z s h => stpI_ok l x y z s h⟩
theorem goodS : Good W H (stpS W H r l) := ⟨fun x y z s h => stpS_ok l x y z s h⟩
theorem vA_ok {stp : Nat → Nat → Int → St → St} (g : Good W H stp) {n : Nat} (z : Int) (y i : Nat) (s : St) (h : Ok (W * H) n s) : Ok (W * H) (n + 1) (vA W H r l stp z y i s) := by
  unfold vA
  split
  · exact g.ok _ _ _ _ h
  · exact ⟨h.t, by have := h.m; omega⟩
theorem vB_ok {stp : Nat → Nat → Int → St → St} (g : Good W H stp) {n : Nat} (lv : List Int) (y x : Nat) (s : St) (h : Ok (W * H) n s) : Ok (W * H) (n + 1) (vB W H r l stp lv y x s) := by
  unfold vB
  split
  · exact ⟨h.t, by have := h.m; omega⟩
  · exact g.ok _ _ _ _ h
theorem rowA_ok {stp : Nat → Nat → Int → St → St} (g : Good W H stp) {n : Nat} (z : Int) (y i : Nat) (s : St) (h : Ok (W * H) n s) : Ok (W * H) (n + i) (iter (vA W H r l stp z y) i s) := by
  have := iter_ok (f := vA W H r l stp z y) (a := 1) i (fun j s n _ hs => vA_ok l g z y j s hs) n s h
  rwa [Nat.mul_one] at this
theorem rowB_ok {stp : Nat → Nat → Int → St → St} (g : Good W H stp) {n : Nat} (lv : List Int) (y i : Nat) (s : St) (h : Ok (W * H) n s) : Ok (W * H) (n + i) (iter (vB W H r l stp lv y) i s) := by
  have := iter_ok (f := vB W H r l stp lv y) (a := 1) i (fun j s n _ hs => vB_ok l g lv y j s hs) n s h
  rwa [Nat.mul_one] at this
theorem levA_ok {stp : Nat → Nat → Int → St → St} (g : Good W H stp) {n : Nat} (z : Int) (y : Nat) (s : St) (h : Ok (W * H) n s) : Ok (W * H) (n + y * W) (iter (fun y => iter (vA W H r l stp z y) W) y s) :=
  iter_ok (a := W) y (fun j s n _ hs => rowA_ok (r := r) l g z j W s hs) n s h
theorem levB_ok {stp : Nat → Nat → Int → St → St} (g : Good W H stp) {n : Nat} (lv : List Int) (y : Nat) (s : St) (h : Ok (W * H) n s) : Ok (W * H) (n + y * W) (iter (fun y => iter (vB W H r l stp lv y) W) y s) :=
  iter_ok (a := W) y (fun j s n _ hs => rowB_ok (r := r) l g lv j W s hs) n s h
/-- The program's walks, row by row. -/
theorem impl_rowA (d : Dim W H r) (step z : Int) (S : List Int) (y : Nat) (hy : y < H) (n : Nat) (s : St) (hs : Ok (W * H) n s) (hn : n ≤ 100000) {q : List S61 × Int}
    (h : Ev (fun k => impl_Zigzag.l1 k step (lowL W H r l (W * H)) S z ((y + 1 : Nat) : Int) (W : Int) (H : Int) l r (iter (vA W H r l (stpI W H r l) z y) W s).t (iter (vA W H r l (stpI W H r l) z y) W s).m (iter (vA W H r l (stpI W H r l) z y) W s).y) q) :
    Ev (fun k => impl_Zigzag.l2 k step (lowL W H r l (W * H)) S z (y : Int) 0 (W : Int) (H : Int) l r s.t s.m s.y) q := by
  have w2 := d.w2
  have h2 := d.h2
  refine ev_steps (fun i k => impl_Zigzag.l2 k step (lowL W H r l (W * H)) S z (y : Int) (i : Int) (W : Int) (H : Int) l r (iter (vA W H r l (stpI W H r l) z y) i s).t (iter (vA W H r l (stpI W H r l) z y) i s).m (iter (vA W H r l (stpI W H r l) z y) i s).y) W (fun i hi h' => ?_) (ev_one (fun k => by
    show impl_Zigzag.l2 (k + 1) step _ S z (y : Int) (W : Int) (W : Int) (H : Int) l r _ _ _ = _
    simp only [impl_Zigzag.l2]
    rw [if_neg (by omega), wr_succ y (by omega)]) h)
  have ok := rowA_ok (r := r) l (goodI (r := r) l) z y i s hs
  have hx := xOf_lt (W := W) (y := y) hi
  obtain ⟨iw, ib⟩ := idx_w d hx hy
  have il := idx_lt hx hy
  have e1 : wrap64 (wrap64 ((W : Int) - 1) - (i : Int)) = ((W - 1 - i : Nat) : Int) := by rw [wr (n := (W : Int) - 1) (by omega) (by omega), wr (by omega) (by omega)]; omega
  have h' : Ev (fun k => impl_Zigzag.l2 k step (lowL W H r l (W * H)) S z (y : Int) ((i + 1 : Nat) : Int) (W : Int) (H : Int) l r (vA W H r l (stpI W H r l) z y i (iter (vA W H r l (stpI W H r l) z y) i s)).t (vA W H r l (stpI W H r l) z y i (iter (vA W H r l (stpI W H r l) z y) i s)).m (vA W H r l (stpI W H r l) z y i (iter (vA W H r l (stpI W H r l) z y) i s)).y) q := h'
  generalize iter (vA W H r l (stpI W H r l) z y) i s = s' at ok h' ⊢
  have hst := impl_stand l d (xOf W y i) y hx hy z s' ok.t (by have := ok.m; omega)
  by_cases hz : rd (lowL W H r l (W * H)) ((y * W + xOf W y i : Nat) : Int) ≤ z
  · unfold vA at h'
    rw [if_pos hz] at h'
    have hb : Ev (fun k => (impl_Zigzag_1.f k ((xOf W y i : Nat) : Int) (y : Int) z (W : Int) (H : Int) l r s'.t s'.m s'.y).bind fun bt => impl_Zigzag.l2 k step (lowL W H r l (W * H)) S z (y : Int) ((i + 1 : Nat) : Int) (W : Int) (H : Int) l r bt.2.2 bt.2.1 bt.1) q := Ev.bind hst h'
    refine ev_one (fun k => ?_) hb
    simp only [impl_Zigzag.l2]
    by_cases ho : Int.tmod (y : Int) 2 = 1
    · have ex : xOf W y i = W - 1 - i := by unfold xOf; rw [if_pos ho]
      rw [ex] at iw il hz ⊢
      rw [if_pos (by omega), if_pos ho, e1, iw, if_pos (by omega), if_pos (by rw [lowL_len]; omega), if_pos hz, wr_succ i (by omega)]
    · have ex : xOf W y i = i := by unfold xOf; rw [if_neg ho]
      rw [ex] at iw il hz ⊢
      rw [if_pos (by omega), if_neg ho, iw, if_pos (by omega), if_pos (by rw [lowL_len]; omega), if_pos hz, wr_succ i (by omega)]
  · unfold vA at h'
    rw [if_neg hz] at h'
    refine ev_one (fun k => ?_) h'
    simp only [impl_Zigzag.l2]
    by_cases ho : Int.tmod (y : Int) 2 = 1
    · have ex : xOf W y i = W - 1 - i := by unfold xOf; rw [if_pos ho]
      rw [ex] at iw il hz
      rw [if_pos (by omega), if_pos ho, e1, iw, if_pos (by omega), if_pos (by rw [lowL_len]; omega), if_neg hz, wr_succ i (by omega)]
    · have ex : xOf W y i = i := by unfold xOf; rw [if_neg ho]
      rw [ex] at iw il hz
      rw [if_pos (by omega), if_neg ho, iw, if_pos (by omega), if_pos (by rw [lowL_len]; omega), if_neg hz, wr_succ i (by omega)]
theorem impl_levA (d : Dim W H r) (step z : Int) (S : List Int) (n : Nat) (s : St) (hs : Ok (W * H) n s) (hn : n ≤ 90000) {q : List S61 × Int}
    (h : Ev (fun k => if z = 0 then impl_Zigzag.l3 k (lowL W H r l (W * H)) S 0 (W : Int) (H : Int) l r (levA W H r l (stpI W H r l) s z).t (levA W H r l (stpI W H r l) s z).m (levA W H r l (stpI W H r l) s z).y else impl_Zigzag.l0 k step (lowL W H r l (W * H)) S (wrap64 (z - step)) (W : Int) (H : Int) l r (levA W H r l (stpI W H r l) s z).t (levA W H r l (stpI W H r l) s z).m (levA W H r l (stpI W H r l) s z).y) q) :
    Ev (fun k => impl_Zigzag.l1 k step (lowL W H r l (W * H)) S z 0 (W : Int) (H : Int) l r s.t s.m s.y) q := by
  have hWH : W * H ≤ 24 * 24 := Nat.mul_le_mul d.w2 d.h2
  refine ev_steps (fun y k => impl_Zigzag.l1 k step (lowL W H r l (W * H)) S z (y : Int) (W : Int) (H : Int) l r (iter (fun y => iter (vA W H r l (stpI W H r l) z y) W) y s).t (iter (fun y => iter (vA W H r l (stpI W H r l) z y) W) y s).m (iter (fun y => iter (vA W H r l (stpI W H r l) z y) W) y s).y) H (fun y hy h' => ?_) (ev_one (fun k => by
    show impl_Zigzag.l1 (k + 1) step _ S z (H : Int) (W : Int) (H : Int) l r _ _ _ = _
    simp only [impl_Zigzag.l1]
    rw [if_neg (by omega)]; rfl) h)
  have ok := levA_ok (r := r) l (goodI (r := r) l) z y s hs
  have hyW : y * W ≤ 24 * 24 := Nat.mul_le_mul (by have := d.h2; omega) d.w2
  exact ev_one (f := fun k => impl_Zigzag.l2 k step (lowL W H r l (W * H)) S z (y : Int) 0 (W : Int) (H : Int) l r (iter (fun y => iter (vA W H r l (stpI W H r l) z y) W) y s).t (iter (fun y => iter (vA W H r l (stpI W H r l) z y) W) y s).m (iter (fun y => iter (vA W H r l (stpI W H r l) z y) W) y s).y) (fun k => by simp only [impl_Zigzag.l1]; rw [if_pos (by omega)]) (impl_rowA l d step z S y hy _ _ ok (by omega) h')
def lvls (step : Int) : Nat → Int → List Int
  | 0, _ => [0]
  | f + 1, z => if z > 0 then z :: lvls step f (z - step) else [0]
theorem impl_levels (d : Dim W H r) (step : Int) (s1 : 1 ≤ step) (s2 : step ≤ 24) {q : List S61 × Int} : ∀ (f : Nat) (z : Int) (S : List Int) (n : Nat) (s : St), z ≤ f → z ≤ 24 → S.length + f < 900 → Ok (W * H) n s → n + (f + 1) * 576 ≤ 90000 →
    Ev (fun k => impl_Zigzag.l3 k (lowL W H r l (W * H)) (S ++ lvls step f z) 0 (W : Int) (H : Int) l r ((lvls step f z).foldl (levA W H r l (stpI W H r l)) s).t ((lvls step f z).foldl (levA W H r l (stpI W H r l)) s).m ((lvls step f z).foldl (levA W H r l (stpI W H r l)) s).y) q →
    Ev (fun k => impl_Zigzag.l0 k step (lowL W H r l (W * H)) S z (W : Int) (H : Int) l r s.t s.m s.y) q := by
  have hWH : H * W ≤ 24 * 24 := Nat.mul_le_mul d.h2 d.w2
  have last : ∀ (z : Int) (S : List Int) (n : Nat) (s : St), z ≤ 0 → S.length < 900 → Ok (W * H) n s → n ≤ 90000 → Ev (fun k => impl_Zigzag.l3 k (lowL W H r l (W * H)) (S ++ [0]) 0 (W : Int) (H : Int) l r (levA W H r l (stpI W H r l) s 0).t (levA W H r l (stpI W H r l) s 0).m (levA W H r l (stpI W H r l) s 0).y) q → Ev (fun k => impl_Zigzag.l0 k step (lowL W H r l (W * H)) S z (W : Int) (H : Int) l r s.t s.m s.y) q := by
    intro z S n s hz hS hs hn h
    have e : mx z 0 = 0 := by rw [mx_eq]; omega
    refine ev_one (fun k => ?_) (impl_levA l d step 0 (S ++ [0]) n s hs hn (q := q) (by simpa using h))
    simp only [impl_Zigzag.l0, e]
    rw [if_pos ⟨by omega, by omega⟩, if_pos (by omega)]
  intro f
  induction f with
  | zero => intro z S n s hz h24 hS hs hn h; exact last z S n s (by omega) (by omega) hs (by omega) h
  | succ f ih =>
    intro z S n s hz h24 hS hs hn h
    by_cases hp : z > 0
    · have el : lvls step (f + 1) z = z :: lvls step f (z - step) := by simp only [lvls]; rw [if_pos hp]
      rw [el] at h
      have e : mx z 0 = z := by rw [mx_eq]; omega
      have ok := levA_ok (r := r) l (goodI (r := r) l) z H s hs
      have hn' : n + H * W + (f + 1) * 576 ≤ 90000 := by rw [Nat.succ_mul] at hn; omega
      have h2 := ih (z - step) (S ++ [z]) (n + H * W) (levA W H r l (stpI W H r l) s z) (by omega) (by omega) (by rw [List.length_append]; simp only [List.length_singleton]; omega) ok hn' (by simpa using h)
      refine ev_one (fun k => ?_) (impl_levA l d step z (S ++ [z]) n s hs (by omega) (q := q) (by
        rw [wr (n := z - step) (by omega) (by omega)]
        simp only [if_neg (show ¬ z = 0 by omega)]
        exact h2))
      simp only [impl_Zigzag.l0, e]
      rw [if_pos ⟨by omega, by omega⟩, if_pos (by omega)]
    · have el : lvls step (f + 1) z = [0] := by simp only [lvls]; rw [if_neg hp]
      rw [el] at h
      exact last z S n s (by omega) (by omega) hs (by omega) h
end

section
variable {W H : Nat} {r : Int} (l : List Int)
/-- Cells of a right field, and what lies under a tool, are 0 to 24. -/
theorem part_bd (cs : List Int) (hl : ∀ i, i < l.length → 0 ≤ rd l (i : Int) ∧ rd l (i : Int) ≤ 24) (hc : ∀ c ∈ cs, 0 ≤ c ∧ c < (l.length : Int)) : ∀ i : Nat, i ≤ cs.length → 0 ≤ part l cs i ∧ part l cs i ≤ 24 := by
  intro i
  induction i with
  | zero => intro _; exact ⟨Int.le_refl _, by show (0 : Int) ≤ 24; omega⟩
  | succ i ih =>
    intro hi
    have h1 := ih (by omega)
    have hm := hc _ (rd_mem (xs := cs) (i := (i : Int)) (by omega) (by omega))
    have h2 := hl (rd cs (i : Int)).toNat (by omega)
    rw [Int.toNat_of_nonneg hm.1] at h2
    show 0 ≤ mx (part l cs i) (rd l (rd cs (i : Int))) ∧ mx (part l cs i) (rd l (rd cs (i : Int))) ≤ 24
    rw [mx_eq]; omega
theorem low_bd (d : Dim W H r) (hn : l.length = W * H) (hl : ∀ i, i < l.length → 0 ≤ rd l (i : Int) ∧ rd l (i : Int) ≤ 24) (x y : Nat) (hx : x < W) (hy : y < H) : 0 ≤ rd (lowL W H r l (W * H)) ((y * W + x : Nat) : Int) ∧ rd (lowL W H r l (W * H)) ((y * W + x : Nat) : Int) ≤ 24 := by
  have hi := idx_lt hx hy
  rw [rd_lt _ _ (by rw [lowL_len]; exact hi)]
  have e : (lowL W H r l (W * H))[y * W + x]'(by rw [lowL_len]; exact hi) = lowAt W H r l (y * W + x) := by simp [lowL]
  rw [e, lowAt_xy r l hx]
  obtain ⟨c1, c2, c3⟩ := colsOf_ok d l x y hx hy
  exact part_bd l _ hl (fun c h => by rw [hn]; exact c2 c h) _ (Nat.le_refl _)
theorem impl_rowB (d : Dim W H r) (hn : l.length = W * H) (hl : ∀ i, i < l.length → 0 ≤ rd l (i : Int) ∧ rd l (i : Int) ≤ 24) (S : List Int) (y : Nat) (hy : y < H) (n : Nat) (s : St) (hs : Ok (W * H) n s) (hnn : n ≤ 100000) {q : List S61 × Int}
    (h : Ev (fun k => impl_Zigzag.l3 k (lowL W H r l (W * H)) S ((y + 1 : Nat) : Int) (W : Int) (H : Int) l r (iter (vB W H r l (stpI W H r l) S y) W s).t (iter (vB W H r l (stpI W H r l) S y) W s).m (iter (vB W H r l (stpI W H r l) S y) W s).y) q) :
    Ev (fun k => impl_Zigzag.l4 k (lowL W H r l (W * H)) S (y : Int) 0 (W : Int) (H : Int) l r s.t s.m s.y) q := by
  have w2 := d.w2
  have h2 := d.h2
  refine ev_steps (fun i k => impl_Zigzag.l4 k (lowL W H r l (W * H)) S (y : Int) (i : Int) (W : Int) (H : Int) l r (iter (vB W H r l (stpI W H r l) S y) i s).t (iter (vB W H r l (stpI W H r l) S y) i s).m (iter (vB W H r l (stpI W H r l) S y) i s).y) W (fun i hi h' => ?_) (ev_one (fun k => by
    show impl_Zigzag.l4 (k + 1) _ S (y : Int) (W : Int) (W : Int) (H : Int) l r _ _ _ = _
    simp only [impl_Zigzag.l4]
    rw [if_neg (by omega), wr_succ y (by omega)]) h)
  have ok := rowB_ok (r := r) l (goodI (r := r) l) S y i s hs
  obtain ⟨iw, ib⟩ := idx_w d hi hy
  have il := idx_lt hi hy
  have hb := low_bd l d hn hl i y hi hy
  have h' : Ev (fun k => impl_Zigzag.l4 k (lowL W H r l (W * H)) S (y : Int) ((i + 1 : Nat) : Int) (W : Int) (H : Int) l r (vB W H r l (stpI W H r l) S y i (iter (vB W H r l (stpI W H r l) S y) i s)).t (vB W H r l (stpI W H r l) S y i (iter (vB W H r l (stpI W H r l) S y) i s)).m (vB W H r l (stpI W H r l) S y i (iter (vB W H r l (stpI W H r l) S y) i s)).y) q := h'
  generalize iter (vB W H r l (stpI W H r l) S y) i s = s' at ok h' ⊢
  have hst := impl_stand l d i y hi hy (rd (lowL W H r l (W * H)) ((y * W + i : Nat) : Int)) s' ok.t (by have := ok.m; omega)
  by_cases hz : inI S (rd (lowL W H r l (W * H)) ((y * W + i : Nat) : Int)) = true
  · unfold vB at h'
    rw [if_pos hz] at h'
    refine ev_one (fun k => ?_) h'
    simp only [impl_Zigzag.l4]
    rw [if_pos (by omega), iw, if_pos (by omega), if_pos (by rw [lowL_len]; omega), if_pos ⟨by omega, by omega⟩, if_pos hz, wr_succ i (by omega)]
  · unfold vB at h'
    rw [if_neg hz] at h'
    have hb : Ev (fun k => (impl_Zigzag_1.f k ((i : Nat) : Int) (y : Int) (rd (lowL W H r l (W * H)) ((y * W + i : Nat) : Int)) (W : Int) (H : Int) l r s'.t s'.m s'.y).bind fun bt => impl_Zigzag.l4 k (lowL W H r l (W * H)) S (y : Int) ((i + 1 : Nat) : Int) (W : Int) (H : Int) l r bt.2.2 bt.2.1 bt.1) q := Ev.bind hst h'
    refine ev_one (fun k => ?_) hb
    simp only [impl_Zigzag.l4]
    rw [if_pos (by omega), iw, if_pos (by omega), if_pos (by rw [lowL_len]; omega), if_pos ⟨by omega, by omega⟩, if_neg hz, wr_succ i (by omega)]
theorem impl_allB (d : Dim W H r) (hn : l.length = W * H) (hl : ∀ i, i < l.length → 0 ≤ rd l (i : Int) ∧ rd l (i : Int) ≤ 24) (S : List Int) (n : Nat) (s : St) (hs : Ok (W * H) n s) (hnn : n ≤ 90000) :
    Ev (fun k => impl_Zigzag.l3 k (lowL W H r l (W * H)) S 0 (W : Int) (H : Int) l r s.t s.m s.y) (fin (allB W H r l (stpI W H r l) S s)) := by
  refine ev_steps (fun y k => impl_Zigzag.l3 k (lowL W H r l (W * H)) S (y : Int) (W : Int) (H : Int) l r (iter (fun y => iter (vB W H r l (stpI W H r l) S y) W) y s).t (iter (fun y => iter (vB W H r l (stpI W H r l) S y) W) y s).m (iter (fun y => iter (vB W H r l (stpI W H r l) S y) W) y s).y) H (fun y hy h' => ?_) (ev_some fun k => by
    show impl_Zigzag.l3 (k + 1) _ S (H : Int) (W : Int) (H : Int) l r _ _ _ = _
    simp only [impl_Zigzag.l3]
    rw [if_neg (by omega)]
    show (if ((allB W H r l (stpI W H r l) S s).m.length : Int) > 2000 then some ([], 18) else some ((allB W H r l (stpI W H r l) S s).m, 0)) = _
    unfold fin
    split <;> rfl)
  have ok := levB_ok (r := r) l (goodI (r := r) l) S y s hs
  have hyW : y * W ≤ 24 * 24 := Nat.mul_le_mul (by have := d.h2; omega) d.w2
  exact ev_one (f := fun k => impl_Zigzag.l4 k (lowL W H r l (W * H)) S (y : Int) 0 (W : Int) (H : Int) l r (iter (fun y => iter (vB W H r l (stpI W H r l) S y) W) y s).t (iter (fun y => iter (vB W H r l (stpI W H r l) S y) W) y s).m (iter (fun y => iter (vB W H r l (stpI W H r l) S y) W) y s).y) (fun k => by simp only [impl_Zigzag.l3]; rw [if_pos (by omega)]) (impl_rowB l d hn hl S y hy _ _ ok (by omega) h')
/-- The reference's walks. -/
theorem spec_rowA (d : Dim W H r) (lv : List Int) (c : Nat) (hc : c < lv.length) (z : Int) (hz0 : rd lv (c : Int) = z) (y : Nat) (hy : y < H) (n : Nat) (s : St) (hs : Ok (W * H) n s) (hn : n ≤ 100000) {q : List S61 × Int}
    (h : Ev (fun k => spec_Zigzag.l1 k (lowL W H r l (W * H)) lv (c : Int) ((y + 1 : Nat) : Int) (W : Int) (H : Int) l (W : Int) (H : Int) l r (iter (vA W H r l (stpS W H r l) z y) W s).t (iter (vA W H r l (stpS W H r l) z y) W s).y (iter (vA W H r l (stpS W H r l) z y) W s).m) q) :
    Ev (fun k => spec_Zigzag.l2 k (lowL W H r l (W * H)) lv (c : Int) (y : Int) 0 (W : Int) (H : Int) l (W : Int) (H : Int) l r s.t s.y s.m) q := by
  have w2 := d.w2
  have h2 := d.h2
  refine ev_steps (fun i k => spec_Zigzag.l2 k (lowL W H r l (W * H)) lv (c : Int) (y : Int) (i : Int) (W : Int) (H : Int) l (W : Int) (H : Int) l r (iter (vA W H r l (stpS W H r l) z y) i s).t (iter (vA W H r l (stpS W H r l) z y) i s).y (iter (vA W H r l (stpS W H r l) z y) i s).m) W (fun i hi h' => ?_) (ev_one (fun k => by
    show spec_Zigzag.l2 (k + 1) _ lv (c : Int) (y : Int) (W : Int) (W : Int) (H : Int) l (W : Int) (H : Int) l r _ _ _ = _
    simp only [spec_Zigzag.l2]
    rw [if_neg (by omega), wr_succ y (by omega)]) h)
  have ok := rowA_ok (r := r) l (goodS (r := r) l) z y i s hs
  have hx := xOf_lt (W := W) (y := y) hi
  have il := idx_lt hx hy
  have b1 : (i : Int) < (W : Int) := Int.ofNat_lt.mpr hi
  have b2 : (0 : Int) ≤ ((y * W + xOf W y i : Nat) : Int) := Int.natCast_nonneg _
  have b3 : ((y * W + xOf W y i : Nat) : Int) < ((lowL W H r l (W * H)).length : Int) := by rw [lowL_len]; exact Int.ofNat_lt.mpr il
  have b4 : (0 : Int) ≤ (c : Int) := Int.natCast_nonneg _
  have b5 : (c : Int) < (lv.length : Int) := Int.ofNat_lt.mpr hc
  have b6 : i < 9223372036854775807 := by omega
  obtain ⟨iw, ib⟩ := idx_w d hx hy
  have e1 : wrap64 (wrap64 ((W : Int) - 1) - (i : Int)) = ((W - 1 - i : Nat) : Int) := by rw [wr (n := (W : Int) - 1) (by omega) (by omega), wr (by omega) (by omega)]; omega
  have h' : Ev (fun k => spec_Zigzag.l2 k (lowL W H r l (W * H)) lv (c : Int) (y : Int) ((i + 1 : Nat) : Int) (W : Int) (H : Int) l (W : Int) (H : Int) l r (vA W H r l (stpS W H r l) z y i (iter (vA W H r l (stpS W H r l) z y) i s)).t (vA W H r l (stpS W H r l) z y i (iter (vA W H r l (stpS W H r l) z y) i s)).y (vA W H r l (stpS W H r l) z y i (iter (vA W H r l (stpS W H r l) z y) i s)).m) q := h'
  generalize iter (vA W H r l (stpS W H r l) z y) i s = s' at ok h' ⊢
  have hst := spec_stand l d (xOf W y i) y hx hy z s' ok.t (by have := ok.m; omega) 0
  by_cases hz : rd (lowL W H r l (W * H)) ((y * W + xOf W y i : Nat) : Int) ≤ z
  · unfold vA at h'
    rw [if_pos hz] at h'
    have hb : Ev (fun k => (spec_l11Run_stand.f k 0 ((xOf W y i : Nat) : Int) (y : Int) z (W : Int) (H : Int) l r s'.t s'.y s'.m).bind fun bt => spec_Zigzag.l2 k (lowL W H r l (W * H)) lv (c : Int) (y : Int) ((i + 1 : Nat) : Int) (W : Int) (H : Int) l (W : Int) (H : Int) l r bt.2.2 bt.1 bt.2.1) q := Ev.bind hst h'
    refine ev_one (fun k => ?_) hb
    simp only [spec_Zigzag.l2, hz0]
    by_cases ho : Int.tmod (y : Int) 2 = 1
    · have ex : xOf W y i = W - 1 - i := by unfold xOf; rw [if_pos ho]
      rw [ex] at iw b2 b3 hz ⊢
      rw [if_pos b1, if_pos ho, e1, iw, if_pos b2, if_pos b3, if_pos b4, if_pos b5, if_pos hz, wr_succ i b6]
    · have ex : xOf W y i = i := by unfold xOf; rw [if_neg ho]
      rw [ex] at iw b2 b3 hz ⊢
      rw [if_pos b1, if_neg ho, iw, if_pos b2, if_pos b3, if_pos b4, if_pos b5, if_pos hz, wr_succ i b6]
  · unfold vA at h'
    rw [if_neg hz] at h'
    refine ev_one (fun k => ?_) h'
    simp only [spec_Zigzag.l2, hz0]
    by_cases ho : Int.tmod (y : Int) 2 = 1
    · have ex : xOf W y i = W - 1 - i := by unfold xOf; rw [if_pos ho]
      rw [ex] at iw b2 b3 hz
      rw [if_pos b1, if_pos ho, e1, iw, if_pos b2, if_pos b3, if_pos b4, if_pos b5, if_neg hz, wr_succ i b6]
    · have ex : xOf W y i = i := by unfold xOf; rw [if_neg ho]
      rw [ex] at iw b2 b3 hz
      rw [if_pos b1, if_neg ho, iw, if_pos b2, if_pos b3, if_pos b4, if_pos b5, if_neg hz, wr_succ i b6]
theorem spec_levA (d : Dim W H r) (lv : List Int) (c : Nat) (hc : c < lv.length) (hlv : lv.length < 1000) (z : Int) (hz0 : rd lv (c : Int) = z) (n : Nat) (s : St) (hs : Ok (W * H) n s) (hn : n ≤ 90000) {q : List S61 × Int}
    (h : Ev (fun k => spec_Zigzag.l0 k (lowL W H r l (W * H)) lv ((c + 1 : Nat) : Int) (W : Int) (H : Int) l (W : Int) (H : Int) l r (levA W H r l (stpS W H r l) s z).t (levA W H r l (stpS W H r l) s z).y (levA W H r l (stpS W H r l) s z).m) q) :
    Ev (fun k => spec_Zigzag.l1 k (lowL W H r l (W * H)) lv (c : Int) 0 (W : Int) (H : Int) l (W : Int) (H : Int) l r s.t s.y s.m) q := by
  refine ev_steps (fun y k => spec_Zigzag.l1 k (lowL W H r l (W * H)) lv (c : Int) (y : Int) (W : Int) (H : Int) l (W : Int) (H : Int) l r (iter (fun y => iter (vA W H r l (stpS W H r l) z y) W) y s).t (iter (fun y => iter (vA W H r l (stpS W H r l) z y) W) y s).y (iter (fun y => iter (vA W H r l (stpS W H r l) z y) W) y s).m) H (fun y hy h' => ?_) (ev_one (fun k => by
    show spec_Zigzag.l1 (k + 1) _ lv (c : Int) (H : Int) (W : Int) (H : Int) l (W : Int) (H : Int) l r _ _ _ = _
    simp only [spec_Zigzag.l1]
    rw [if_neg (by omega), wr_succ c (by omega)]; rfl) h)
  have ok := levA_ok (r := r) l (goodS (r := r) l) z y s hs
  have hyW : y * W ≤ 24 * 24 := Nat.mul_le_mul (by have := d.h2; omega) d.w2
  exact ev_one (f := fun k => spec_Zigzag.l2 k (lowL W H r l (W * H)) lv (c : Int) (y : Int) 0 (W : Int) (H : Int) l (W : Int) (H : Int) l r (iter (fun y => iter (vA W H r l (stpS W H r l) z y) W) y s).t (iter (fun y => iter (vA W H r l (stpS W H r l) z y) W) y s).y (iter (fun y => iter (vA W H r l (stpS W H r l) z y) W) y s).m) (fun k => by simp only [spec_Zigzag.l1]; rw [if_pos (by omega)]) (spec_rowA l d lv c hc z hz0 y hy _ _ ok (by omega) h')
theorem spec_levels (d : Dim W H r) (lv : List Int) (hlv : lv.length < 100) {q : List S61 × Int} : ∀ (suf pre : List Int) (n : Nat) (s : St), pre ++ suf = lv → Ok (W * H) n s → n + suf.length * 576 ≤ 90000 →
    Ev (fun k => spec_Zigzag.l3 k (lowL W H r l (W * H)) lv 0 (W : Int) (H : Int) l (W : Int) (H : Int) l r (suf.foldl (levA W H r l (stpS W H r l)) s).t (suf.foldl (levA W H r l (stpS W H r l)) s).y (suf.foldl (levA W H r l (stpS W H r l)) s).m) q →
    Ev (fun k => spec_Zigzag.l0 k (lowL W H r l (W * H)) lv (pre.length : Int) (W : Int) (H : Int) l (W : Int) (H : Int) l r s.t s.y s.m) q := by
  have hWH : H * W ≤ 24 * 24 := Nat.mul_le_mul d.h2 d.w2
  intro suf
  induction suf with
  | nil =>
    intro pre n s hp hs hn h
    have hl : pre.length = lv.length := by rw [← hp]; simp
    refine ev_one (fun k => ?_) h
    simp only [spec_Zigzag.l0]
    rw [if_neg (by omega)]; rfl
  | cons z suf ih =>
    intro pre n s hp hs hn h
    have hlt : pre.length < lv.length := by rw [← hp]; simp
    have e : rd lv (pre.length : Int) = z := by
      rw [rd_lt _ _ hlt]
      simp [← hp]
    have hn' : n + H * W + suf.length * 576 ≤ 90000 := by rw [List.length_cons, Nat.succ_mul] at hn; omega
    have h2 := ih (pre ++ [z]) (n + H * W) (levA W H r l (stpS W H r l) s z) (by rw [← hp]; simp) (levA_ok (r := r) l (goodS (r := r) l) z H s hs) hn' h
    have hl : (pre ++ [z]).length = pre.length + 1 := by simp
    rw [hl] at h2
    refine ev_one (f := fun k => spec_Zigzag.l1 k (lowL W H r l (W * H)) lv (pre.length : Int) 0 (W : Int) (H : Int) l (W : Int) (H : Int) l r s.t s.y s.m) (fun k => by simp only [spec_Zigzag.l0]; rw [if_pos (by omega)]) ?_
    exact spec_levA l d lv pre.length hlt (by omega) z e n s hs (by rw [List.length_cons, Nat.succ_mul] at hn; omega) h2
/-- Whether a height is a level. -/
theorem spec_isLevel (lv : List Int) (hlv : lv.length < 100) (y x : Nat) (z : Int) (lw : List Int) (s : St) (a b : Int) {q : List S61 × Int}
    (h : Ev (fun k => if inI lv z = true then spec_Zigzag.l4 k lw lv (y : Int) (wrap64 ((x : Int) + 1)) a b l a b l r s.t s.y s.m else (spec_l11Run_stand.f k 0 (x : Int) (y : Int) z a b l r s.t s.y s.m).bind fun bt => spec_Zigzag.l4 k lw lv (y : Int) (wrap64 ((x : Int) + 1)) a b l a b l r bt.2.2 bt.1 bt.2.1) q) : ∀ (suf pre : List Int) (f : Bool), pre ++ suf = lv → (f || inI suf z) = inI lv z →
    Ev (fun k => spec_Zigzag.l5 k lw lv (y : Int) (x : Int) z f (pre.length : Int) a b l a b l r s.t s.y s.m) q := by
  intro suf
  induction suf with
  | nil =>
    intro pre f hp hf
    have hl : pre.length = lv.length := by rw [← hp]; simp
    have hf : f = inI lv z := by rw [← hf]; simp [inI]
    refine ev_one (fun k => ?_) h
    simp only [spec_Zigzag.l5, hl]
    rw [if_neg (by omega), hf]
  | cons c suf ih =>
    intro pre f hp hf
    have hlt : pre.length < lv.length := by rw [← hp]; simp
    have e : rd lv (pre.length : Int) = c := by
      rw [rd_lt _ _ hlt]
      simp [← hp]
    cases f with
    | true =>
      refine ev_one (fun k => ?_) (ih (pre ++ [c]) true (by rw [← hp]; simp) (by simpa using hf))
      simp only [spec_Zigzag.l5, if_true]
      rw [if_pos (by omega), wr_succ _ (by omega), List.length_append]
      rfl
    | false =>
      refine ev_one (fun k => ?_) (ih (pre ++ [c]) (c == z) (by rw [← hp]; simp) (by rw [← hf]; simp [inI]))
      simp only [spec_Zigzag.l5, e, Bool.false_eq_true, if_false]
      rw [if_pos (by omega), if_pos (by omega), wr_succ _ (by omega), List.length_append]
      rfl
theorem spec_rowB (d : Dim W H r) (lv : List Int) (hlv : lv.length < 100) (y : Nat) (hy : y < H) (n : Nat) (s : St) (hs : Ok (W * H) n s) (hnn : n ≤ 100000) {q : List S61 × Int}
    (h : Ev (fun k => spec_Zigzag.l3 k (lowL W H r l (W * H)) lv ((y + 1 : Nat) : Int) (W : Int) (H : Int) l (W : Int) (H : Int) l r (iter (vB W H r l (stpS W H r l) lv y) W s).t (iter (vB W H r l (stpS W H r l) lv y) W s).y (iter (vB W H r l (stpS W H r l) lv y) W s).m) q) :
    Ev (fun k => spec_Zigzag.l4 k (lowL W H r l (W * H)) lv (y : Int) 0 (W : Int) (H : Int) l (W : Int) (H : Int) l r s.t s.y s.m) q := by
  have w2 := d.w2
  have h2 := d.h2
  refine ev_steps (fun i k => spec_Zigzag.l4 k (lowL W H r l (W * H)) lv (y : Int) (i : Int) (W : Int) (H : Int) l (W : Int) (H : Int) l r (iter (vB W H r l (stpS W H r l) lv y) i s).t (iter (vB W H r l (stpS W H r l) lv y) i s).y (iter (vB W H r l (stpS W H r l) lv y) i s).m) W (fun i hi h' => ?_) (ev_one (fun k => by
    show spec_Zigzag.l4 (k + 1) _ lv (y : Int) (W : Int) (W : Int) (H : Int) l (W : Int) (H : Int) l r _ _ _ = _
    simp only [spec_Zigzag.l4]
    rw [if_neg (by omega), wr_succ y (by omega)]) h)
  have ok := rowB_ok (r := r) l (goodS (r := r) l) lv y i s hs
  obtain ⟨iw, ib⟩ := idx_w d hi hy
  have il := idx_lt hi hy
  have h' : Ev (fun k => spec_Zigzag.l4 k (lowL W H r l (W * H)) lv (y : Int) ((i + 1 : Nat) : Int) (W : Int) (H : Int) l (W : Int) (H : Int) l r (vB W H r l (stpS W H r l) lv y i (iter (vB W H r l (stpS W H r l) lv y) i s)).t (vB W H r l (stpS W H r l) lv y i (iter (vB W H r l (stpS W H r l) lv y) i s)).y (vB W H r l (stpS W H r l) lv y i (iter (vB W H r l (stpS W H r l) lv y) i s)).m) q := h'
  generalize iter (vB W H r l (stpS W H r l) lv y) i s = s' at ok h' ⊢
  have hst := spec_stand l d i y hi hy (rd (lowL W H r l (W * H)) ((y * W + i : Nat) : Int)) s' ok.t (by have := ok.m; omega) 0
  refine ev_one (fun k => ?_) (spec_isLevel l lv hlv y i (rd (lowL W H r l (W * H)) ((y * W + i : Nat) : Int)) (lowL W H r l (W * H)) s' (W : Int) (H : Int) (q := q) (r := r) ?_ lv [] false rfl rfl)
  · simp only [spec_Zigzag.l4]
    rw [if_pos (by omega), iw, if_pos (by omega), if_pos (by rw [lowL_len]; omega)]
    rfl
  · rw [wr_succ i (by omega)]
    by_cases hz : inI lv (rd (lowL W H r l (W * H)) ((y * W + i : Nat) : Int)) = true
    · unfold vB at h'
      rw [if_pos hz] at h'
      simp only [if_pos hz]; exact h'
    · unfold vB at h'
      rw [if_neg hz] at h'
      simp only [if_neg hz]; exact Ev.bind hst h'
theorem spec_allB (d : Dim W H r) (lv : List Int) (hlv : lv.length < 100) (n : Nat) (s : St) (hs : Ok (W * H) n s) (hnn : n ≤ 90000) :
    Ev (fun k => spec_Zigzag.l3 k (lowL W H r l (W * H)) lv 0 (W : Int) (H : Int) l (W : Int) (H : Int) l r s.t s.y s.m) (fin (allB W H r l (stpS W H r l) lv s)) := by
  refine ev_steps (fun y k => spec_Zigzag.l3 k (lowL W H r l (W * H)) lv (y : Int) (W : Int) (H : Int) l (W : Int) (H : Int) l r (iter (fun y => iter (vB W H r l (stpS W H r l) lv y) W) y s).t (iter (fun y => iter (vB W H r l (stpS W H r l) lv y) W) y s).y (iter (fun y => iter (vB W H r l (stpS W H r l) lv y) W) y s).m) H (fun y hy h' => ?_) (ev_some fun k => by
    show spec_Zigzag.l3 (k + 1) _ lv (H : Int) (W : Int) (H : Int) l (W : Int) (H : Int) l r _ _ _ = _
    simp only [spec_Zigzag.l3]
    rw [if_neg (by omega)]
    show (if ((allB W H r l (stpS W H r l) lv s).m.length : Int) > 2000 then some ([], 18) else some ((allB W H r l (stpS W H r l) lv s).m, 0)) = _
    unfold fin
    split <;> rfl)
  have ok := levB_ok (r := r) l (goodS (r := r) l) lv y s hs
  have hyW : y * W ≤ 24 * 24 := Nat.mul_le_mul (by have := d.h2; omega) d.w2
  exact ev_one (f := fun k => spec_Zigzag.l4 k (lowL W H r l (W * H)) lv (y : Int) 0 (W : Int) (H : Int) l (W : Int) (H : Int) l r (iter (fun y => iter (vB W H r l (stpS W H r l) lv y) W) y s).t (iter (fun y => iter (vB W H r l (stpS W H r l) lv y) W) y s).y (iter (fun y => iter (vB W H r l (stpS W H r l) lv y) W) y s).m) (fun k => by simp only [spec_Zigzag.l3]; rw [if_pos (by omega)]) (spec_rowB l d lv hlv y hy _ _ ok (by omega) h')
end

section
variable {W H : Nat} {r : Int} (l : List Int)
theorem rel_stp (d : Dim W H r) {x y : Nat} (hx : x < W) (hy : y < H) (z : Int) (s s' : St) (h : Rel s s') (ht : s.t.length = W * H) : Rel (stpI W H r l x y z s) (stpS W H r l x y z s') ∧ (stpI W H r l x y z s).t.length = W * H := by
  refine ⟨?_, by show (cut z _ s.t).length = _; rw [cut_len]; exact ht⟩
  obtain ⟨c1, c2, c3⟩ := colsOf_ok d l x y hx hy
  rcases h with h | ⟨h1, h2⟩
  · subst h
    by_cases ht' : takes z (colsOf W H r l x y) s.t = true
    · by_cases hm : (s.m.length : Int) > 2000
      · refine Or.inr ⟨?_, ?_⟩
        · show 2000 < (if takes z (colsOf W H r l x y) s.t = true then s.m ++ four x s.y y z else s.m).length
          rw [if_pos ht', List.length_append]; omega
        · unfold stpS; rw [if_pos ht', if_pos hm]; omega
      · refine Or.inl ?_
        unfold stpI stpS; rw [if_pos ht', if_neg hm]; simp only [if_pos ht']
    · refine Or.inl ?_
      have e := cut_none z _ s.t (fun c h => by rw [ht]; exact c2 c h) (by simpa using ht')
      unfold stpI stpS; rw [if_neg ht', e]; simp only [if_neg ht']
  · refine Or.inr ⟨?_, ?_⟩
    · show 2000 < (if takes z (colsOf W H r l x y) s.t = true then s.m ++ four x s.y y z else s.m).length
      split
      · rw [List.length_append]; omega
      · exact h1
    · unfold stpS
      split
      · split
        · exact h2
        · show 2000 < (s'.m ++ four x s'.y y z).length
          rw [List.length_append]; omega
      · exact h2
theorem rel_vA (d : Dim W H r) (z : Int) {y i : Nat} (hy : y < H) (hi : i < W) (s s' : St) (h : Rel s s') (ht : s.t.length = W * H) : Rel (vA W H r l (stpI W H r l) z y i s) (vA W H r l (stpS W H r l) z y i s') ∧ (vA W H r l (stpI W H r l) z y i s).t.length = W * H := by
  unfold vA
  split
  · exact rel_stp l d (xOf_lt hi) hy z s s' h ht
  · exact ⟨h, ht⟩
theorem rel_vB (d : Dim W H r) (lv : List Int) {y i : Nat} (hy : y < H) (hi : i < W) (s s' : St) (h : Rel s s') (ht : s.t.length = W * H) : Rel (vB W H r l (stpI W H r l) lv y i s) (vB W H r l (stpS W H r l) lv y i s') ∧ (vB W H r l (stpI W H r l) lv y i s).t.length = W * H := by
  unfold vB
  split
  · exact ⟨h, ht⟩
  · exact rel_stp l d hi hy _ s s' h ht
theorem rel_levA (d : Dim W H r) (z : Int) (s s' : St) (h : Rel s s') (ht : s.t.length = W * H) : Rel (levA W H r l (stpI W H r l) s z) (levA W H r l (stpS W H r l) s' z) ∧ (levA W H r l (stpI W H r l) s z).t.length = W * H :=
  iter_rel H (fun y s s' hy hs ht => iter_rel W (fun i s s' hi hs ht => rel_vA l d z hy hi s s' hs ht) s s' hs ht) s s' h ht
theorem rel_allB (d : Dim W H r) (lv : List Int) (s s' : St) (h : Rel s s') (ht : s.t.length = W * H) : Rel (allB W H r l (stpI W H r l) lv s) (allB W H r l (stpS W H r l) lv s') ∧ (allB W H r l (stpI W H r l) lv s).t.length = W * H :=
  iter_rel H (fun y s s' hy hs ht => iter_rel W (fun i s s' hi hs ht => rel_vB l d lv hy hi s s' hs ht) s s' hs ht) s s' h ht
theorem rel_levels (d : Dim W H r) : ∀ (lv : List Int) (s s' : St), Rel s s' → s.t.length = W * H → Rel (lv.foldl (levA W H r l (stpI W H r l)) s) (lv.foldl (levA W H r l (stpS W H r l)) s') ∧ (lv.foldl (levA W H r l (stpI W H r l)) s).t.length = W * H := by
  intro lv
  induction lv with
  | nil => intro s s' h ht; exact ⟨h, ht⟩
  | cons z lv ih =>
    intro s s' h ht
    obtain ⟨h1, h2⟩ := rel_levA l d z s s' h ht
    exact ih _ _ h1 h2
theorem fin_rel {s s' : St} (h : Rel s s') : fin s = fin s' := by
  rcases h with h | ⟨h1, h2⟩
  · rw [h]
  · unfold fin; rw [if_pos (by omega), if_pos (by omega)]
theorem fin_len (s : St) : (fin s).1.length ≤ 2000 := by
  unfold fin
  split
  · simp
  · show s.m.length ≤ 2000; omega
theorem levels_ok {stp : Nat → Nat → Int → St → St} (g : Good W H stp) : ∀ (lv : List Int) (n : Nat) (s : St), Ok (W * H) n s → Ok (W * H) (n + lv.length * (H * W)) (lv.foldl (levA W H r l stp) s) := by
  intro lv
  induction lv with
  | nil => intro n s h; simpa using h
  | cons z lv ih =>
    intro n s h
    have := ih (n + H * W) _ (levA_ok (r := r) l g z H s h)
    rw [List.length_cons, Nat.succ_mul]
    have e : n + H * W + lv.length * (H * W) = n + (lv.length * (H * W) + H * W) := by omega
    rw [e] at this
    exact this
end
theorem lvls_len (step : Int) : ∀ (f : Nat) (z : Int), (lvls step f z).length ≤ f + 1 := by
  intro f
  induction f with
  | zero => intro z; exact Nat.le_refl _
  | succ f ih =>
    intro z
    simp only [lvls]
    split
    · rw [List.length_cons]; have := ih (z - step); omega
    · simp
theorem spec_lvls (step : Int) (s1 : 1 ≤ step) (s2 : step ≤ 24) : ∀ (f : Nat) (z : Int) (S : List Int), z ≤ f → z ≤ 24 → -24 ≤ z → S.length + f < 900 → Ev (fun k => spec_l11Levels.l0 k step S z) (S ++ lvls step f z) := by
  intro f
  induction f with
  | zero =>
    intro z S hz h24 hz0 hS
    refine ev_some fun k => ?_
    simp only [spec_l11Levels.l0, lvls]
    rw [if_neg (by omega), if_pos (by omega)]
  | succ f ih =>
    intro z S hz h24 hz0 hS
    by_cases hp : z > 0
    · have h := ih (z - step) (S ++ [z]) (by omega) (by omega) (by omega) (by rw [List.length_append]; simp only [List.length_singleton]; omega)
      simp only [lvls]
      rw [if_pos hp]
      rw [List.append_assoc] at h
      refine ev_one (fun k => ?_) h
      simp only [spec_l11Levels.l0]
      rw [if_pos hp, if_pos (by omega), wr (n := z - step) (by omega) (by omega)]
    · simp only [lvls]
      rw [if_neg hp]
      refine ev_some fun k => ?_
      simp only [spec_l11Levels.l0]
      rw [if_neg hp, if_pos (by omega)]
/-- A right stock, part and tool. -/
def under (l l' : List Int) : Prop := ∀ i, i < l'.length → (decide (rd l' (i : Int) ≤ rd l (i : Int))) = true
instance (l l' : List Int) : Decidable (under l l') := by unfold under; exact inferInstance
def okPair (w h : Int) (l : List Int) (w' h' : Int) (l' : List Int) (r : Int) : Bool := decide (okField w h l = true ∧ okField w' h' l' = true ∧ w = w' ∧ h = h' ∧ 0 ≤ r ∧ r ≤ 3 ∧ under l l')
theorem tool_eqn (r : Int) : impl_toolOK.f r = some (decide (0 ≤ r ∧ r ≤ 3)) ∧ spec_l10Tool.f r = some (decide (0 ≤ r ∧ r ≤ 3)) := by
  unfold impl_toolOK.f spec_l10Tool.f
  by_cases h : r ≥ 0
  · simp only [if_pos h]
    have e : decide (r ≤ 3) = decide (0 ≤ r ∧ r ≤ 3) := by congr 1; exact propext ⟨fun h' => ⟨h, h'⟩, fun h' => h'.2⟩
    rw [e]; exact ⟨rfl, rfl⟩
  · simp only [if_neg h]
    have e : decide (0 ≤ r ∧ r ≤ 3) = false := by rw [decide_eq_false_iff_not]; omega
    rw [e]; exact ⟨rfl, rfl⟩
theorem okField_len {w h : Int} {l : List Int} (e : okField w h l = true) : 1 ≤ w ∧ w ≤ 24 ∧ 1 ≤ h ∧ h ≤ 24 ∧ (l.length : Int) = w * h ∧ okCells l := by simpa [okField] using e
theorem spec_pair (w h : Int) (l : List Int) (w' h' : Int) (l' : List Int) (r : Int) (hl : l.length ≤ 1048576) (hl' : l'.length ≤ 1048576) : Ev (fun k => spec_l10Pair.f k w h l w' h' l' r) (okPair w h l w' h' l' r) := by
  have stop : okPair w h l w' h' l' r = false → Ev (fun k => spec_l10Pair.j0 k true w h l w' h' l') (okPair w h l w' h' l' r) := fun h => by
    rw [h]; exact ev_some fun k => by simp only [spec_l10Pair.j0, if_true]
  unfold spec_l10Pair.f
  refine Ev.bind (spec_field w h l (by omega)) ?_
  by_cases h1 : okField w h l = true
  · simp only [if_pos h1]
    refine Ev.bind (spec_field w' h' l' (by omega)) ?_
    by_cases h2 : okField w' h' l' = true
    · simp only [if_pos h2]
      by_cases h3 : w = w'
      · simp only [if_pos h3]
        by_cases h4 : h = h'
        · simp only [if_pos h4, (tool_eqn r).2, Option.bind_some]
          by_cases h5 : 0 ≤ r ∧ r ≤ 3
          · simp only [h5, and_self, decide_true, Bool.not_true]
            refine ev_one (f := fun k => spec_l10Pair.l0 k 0 w h l w' h' l') (fun k => by simp only [spec_l10Pair.j0]; rfl) ?_
            have hlen : l.length = l'.length := by have a := (okField_len h1).2.2.2.2.1; have b := (okField_len h2).2.2.2.2.1; rw [h3, h4] at a; omega
            have := all_loop (r := true) (bad := false) (fun i k => spec_l10Pair.l0 k (i : Int) w h l w' h' l') l'.length (fun i => decide (rd l' (i : Int) ≤ rd l (i : Int))) (fun i hi hp => ⟨0, fun k _ => by
                show spec_l10Pair.l0 (k + 1) (i : Int) w h l w' h' l' = spec_l10Pair.l0 k ((i + 1 : Nat) : Int) w h l w' h' l'
                simp only [decide_eq_true_eq] at hp
                simp only [spec_l10Pair.l0]
                rw [if_pos (by omega), if_pos (by omega), if_pos (by omega), if_neg (by omega), wr_succ i (by omega)]⟩)
              (fun i hi hp => ev_some fun k => by
                show spec_l10Pair.l0 (k + 1) (i : Int) w h l w' h' l' = _
                simp only [decide_eq_false_iff_not] at hp
                simp only [spec_l10Pair.l0]
                rw [if_pos (by omega), if_pos (by omega), if_pos (by omega), if_pos (by omega)])
              (fun _ => ev_some fun k => by
                show spec_l10Pair.l0 (k + 1) (l'.length : Int) w h l w' h' l' = _
                simp only [spec_l10Pair.l0]
                rw [if_neg (by omega)])
            have e : okPair w h l w' h' l' r = if under l l' then true else false := by
              unfold okPair
              by_cases hc : under l l'
              · rw [if_pos hc, decide_eq_true_eq]; exact ⟨h1, h2, h3, h4, h5.1, h5.2, hc⟩
              · rw [if_neg hc, decide_eq_false_iff_not]; exact fun h => hc h.2.2.2.2.2.2
            rw [e]
            exact this
          · have e : decide (0 ≤ r ∧ r ≤ 3) = false := by rw [decide_eq_false_iff_not]; exact h5
            simp only [e, Bool.not_false]; exact stop (by unfold okPair; rw [decide_eq_false_iff_not]; exact fun q => h5 ⟨q.2.2.2.2.1, q.2.2.2.2.2.1⟩)
        · simp only [if_neg h4]; exact stop (by unfold okPair; rw [decide_eq_false_iff_not]; exact fun q => h4 q.2.2.2.1)
      · simp only [if_neg h3]; exact stop (by unfold okPair; rw [decide_eq_false_iff_not]; exact fun q => h3 q.2.2.1)
    · simp only [if_neg h2]; exact stop (by unfold okPair; rw [decide_eq_false_iff_not]; exact fun q => h2 q.2.1)
  · simp only [if_neg h1]; exact stop (by unfold okPair; rw [decide_eq_false_iff_not]; exact fun q => h1 q.1)
theorem impl_pair (w h : Int) (l : List Int) (w' h' : Int) (l' : List Int) (r : Int) (hl : l.length ≤ 1048576) (hl' : l'.length ≤ 1048576) : Ev (fun k => impl_millOK.f k w h l w' h' l' r) (okPair w h l w' h' l' r) := by
  have stop : okPair w h l w' h' l' r = false → Ev (fun k => impl_millOK.j0 k true w h l w' h' l') (okPair w h l w' h' l' r) := fun h => by
    rw [h]; exact ev_some fun k => by simp only [impl_millOK.j0, if_true]
  unfold impl_millOK.f
  refine Ev.bind (impl_field w h l (by omega)) ?_
  by_cases h1 : okField w h l = true
  · simp only [if_pos h1]
    refine Ev.bind (impl_field w' h' l' (by omega)) ?_
    by_cases h2 : okField w' h' l' = true
    · simp only [if_pos h2]
      by_cases h3 : w = w'
      · simp only [if_pos h3]
        by_cases h4 : h = h'
        · simp only [if_pos h4, (tool_eqn r).1, Option.bind_some]
          by_cases h5 : 0 ≤ r ∧ r ≤ 3
          · simp only [h5, and_self, decide_true, Bool.not_true]
            refine ev_one (f := fun k => impl_millOK.l0 k l' (l'.length : Int) 0 w h l) (fun k => by simp only [impl_millOK.j0]; rfl) ?_
            have hlen : l.length = l'.length := by have a := (okField_len h1).2.2.2.2.1; have b := (okField_len h2).2.2.2.2.1; rw [h3, h4] at a; omega
            have := all_loop (r := true) (bad := false) (fun i k => impl_millOK.l0 k l' (l'.length : Int) (i : Int) w h l) l'.length (fun i => decide (rd l' (i : Int) ≤ rd l (i : Int))) (fun i hi hp => ⟨0, fun k _ => by
                show impl_millOK.l0 (k + 1) l' (l'.length : Int) (i : Int) w h l = impl_millOK.l0 k l' (l'.length : Int) ((i + 1 : Nat) : Int) w h l
                simp only [decide_eq_true_eq] at hp
                simp only [impl_millOK.l0]
                rw [if_pos (by omega), if_pos (by omega), if_pos (by omega), if_pos (by omega), if_neg (by omega), wr_succ i (by omega)]⟩)
              (fun i hi hp => ev_some fun k => by
                show impl_millOK.l0 (k + 1) l' (l'.length : Int) (i : Int) w h l = _
                simp only [decide_eq_false_iff_not] at hp
                simp only [impl_millOK.l0]
                rw [if_pos (by omega), if_pos (by omega), if_pos (by omega), if_pos (by omega), if_pos (by omega)])
              (fun _ => ev_some fun k => by
                show impl_millOK.l0 (k + 1) l' (l'.length : Int) (l'.length : Int) w h l = _
                simp only [impl_millOK.l0]
                rw [if_neg (by omega)])
            have e : okPair w h l w' h' l' r = if under l l' then true else false := by
              unfold okPair
              by_cases hc : under l l'
              · rw [if_pos hc, decide_eq_true_eq]; exact ⟨h1, h2, h3, h4, h5.1, h5.2, hc⟩
              · rw [if_neg hc, decide_eq_false_iff_not]; exact fun h => hc h.2.2.2.2.2.2
            rw [e]
            exact this
          · have e : decide (0 ≤ r ∧ r ≤ 3) = false := by rw [decide_eq_false_iff_not]; exact h5
            simp only [e, Bool.not_false]; exact stop (by unfold okPair; rw [decide_eq_false_iff_not]; exact fun q => h5 ⟨q.2.2.2.2.1, q.2.2.2.2.2.1⟩)
        · simp only [if_neg h4]; exact stop (by unfold okPair; rw [decide_eq_false_iff_not]; exact fun q => h4 q.2.2.2.1)
      · simp only [if_neg h3]; exact stop (by unfold okPair; rw [decide_eq_false_iff_not]; exact fun q => h3 q.2.2.1)
    · simp only [if_neg h2]; exact stop (by unfold okPair; rw [decide_eq_false_iff_not]; exact fun q => h2 q.2.1)
  · simp only [if_neg h1]; exact stop (by unfold okPair; rw [decide_eq_false_iff_not]; exact fun q => h1 q.1)
/-- What both lay. -/
theorem zig_both (w h : Int) (l : List Int) (w' h' : Int) (l' : List Int) (r step : Int) (hl : l.length ≤ 1048576) (hl' : l'.length ≤ 1048576) : ∃ q : List S61 × Int, q.1.length ≤ 2000 ∧ Ev (fun k => impl_Zigzag.f k w h l w' h' l' r step) q ∧ Ev (fun k => spec_Zigzag.f k w h l w' h' l' r step) q := by
  have bi : Ev (fun k => impl_Zigzag.j0 k step true w h l w' h' l' r) ([], 1) := ev_some fun k => by simp only [impl_Zigzag.j0, if_true]
  have bs : Ev (fun k => spec_Zigzag.j0 k r step true w h l w' h' l') ([], 1) := ev_some fun k => by simp only [spec_Zigzag.j0, if_true]
  have pi := impl_pair w h l w' h' l' r hl hl'
  have ps := spec_pair w h l w' h' l' r hl hl'
  by_cases ok : okPair w h l w' h' l' r = true
  · by_cases s1 : step < 1
    · refine ⟨([], 1), by simp, ?_, ?_⟩
      · unfold impl_Zigzag.f; refine Ev.bind pi ?_; simp only [if_pos ok, if_pos s1]; exact bi
      · unfold spec_Zigzag.f; refine Ev.bind ps ?_; simp only [if_pos ok, if_pos s1]; exact bs
    · by_cases s2 : step > 24
      · refine ⟨([], 1), by simp, ?_, ?_⟩
        · unfold impl_Zigzag.f; refine Ev.bind pi ?_; simp only [if_pos ok, if_neg s1, s2, decide_true]; exact bi
        · unfold spec_Zigzag.f; refine Ev.bind ps ?_; simp only [if_pos ok, if_neg s1, s2, decide_true]; exact bs
      · have oo := ok
        simp only [okPair, decide_eq_true_eq] at oo
        obtain ⟨o1, o2, rfl, rfl, r0, r1, _⟩ := oo
        obtain ⟨w1, w2, h1, h2, n1, _⟩ := okField_len o1
        obtain ⟨_, _, _, _, n2, cells⟩ := okField_len o2
        obtain ⟨W, rfl⟩ : ∃ n : Nat, w = (n : Int) := ⟨w.toNat, by omega⟩
        obtain ⟨H, rfl⟩ : ∃ n : Nat, h = (n : Int) := ⟨h.toNat, by omega⟩
        have eW : ((W : Int) * (H : Int)) = ((W * H : Nat) : Int) := by push_cast; rfl
        rw [eW] at n1 n2
        have d : Dim W H r := ⟨by omega, by omega, by omega, by omega, r0, r1⟩
        have hWH : H * W ≤ 24 * 24 := Nat.mul_le_mul d.h2 d.w2
        have hcl : ∀ i, i < l'.length → 0 ≤ rd l' (i : Int) ∧ rd l' (i : Int) ≤ 24 := fun i hi => by simpa using cells i hi
        let s0 : St := ⟨l, [⟨true, 0, 0, 24⟩], 0⟩
        have ok0 : Ok (W * H) 0 s0 := ⟨by show l.length = _; omega, by show 1 ≤ 1 + 4 * 0; omega⟩
        have wz : wrap64 (24 - step) = 24 - step := wr (by omega) (by omega)
        have ll := lvls_len step 24 (24 - step)
        obtain ⟨rl, rt⟩ := rel_levels l' d (lvls step 24 (24 - step)) s0 s0 (Or.inl rfl) ok0.t
        obtain ⟨ra, _⟩ := rel_allB l' d (lvls step 24 (24 - step)) _ _ rl rt
        have okI := levels_ok (r := r) l' (goodI (r := r) l') (lvls step 24 (24 - step)) 0 s0 ok0
        have okS := levels_ok (r := r) l' (goodS (r := r) l') (lvls step 24 (24 - step)) 0 s0 ok0
        have hb : (lvls step 24 (24 - step)).length * (H * W) ≤ 25 * 576 := Nat.mul_le_mul ll hWH
        have iB := impl_allB l' d (by omega) hcl (lvls step 24 (24 - step)) _ _ okI (by omega)
        have sB := spec_allB l' d (lvls step 24 (24 - step)) (by omega) _ _ okS (by omega)
        have iL := impl_levels l' d step (by omega) (by omega) 24 (24 - step) [] 0 s0 (by omega) (by omega) (by simp) ok0 (by omega) (by simpa using iB)
        have sL := spec_levels l' d (lvls step 24 (24 - step)) (by omega) (lvls step 24 (24 - step)) [] 0 s0 rfl ok0 (by omega) sB
        have e := fin_rel ra
        refine ⟨fin (allB W H r l' (stpI W H r l') (lvls step 24 (24 - step)) ((lvls step 24 (24 - step)).foldl (levA W H r l' (stpI W H r l')) s0)), fin_len _, ?_, ?_⟩
        · unfold impl_Zigzag.f; refine Ev.bind pi ?_; simp only [if_pos ok, if_neg s1, s2, decide_false]
          refine ev_one (fun k => by simp only [impl_Zigzag.j0, Bool.false_eq_true, if_false]; rfl) ?_
          refine Ev.bind (impl_low d l' (by omega)) ?_
          have hL : ([] : List Int).length + l.length < 17592186044416 := by simp only [List.length_nil]; omega
          simp only [if_pos hL, wz, List.nil_append]
          exact iL
        · rw [e]
          unfold spec_Zigzag.f; refine Ev.bind ps ?_; simp only [if_pos ok, if_neg s1, s2, decide_false]
          refine ev_one (fun k => by simp only [spec_Zigzag.j0, Bool.false_eq_true, if_false]; rfl) ?_
          refine Ev.bind (spec_low d l' (by omega)) ?_
          have hL : ([] : List Int).length + l.length < 17592186044416 := by simp only [List.length_nil]; omega
          simp only [Option.bind_some, if_pos hL, List.nil_append]
          have hv : Ev (fun k => spec_l11Levels.f k step) (lvls step 24 (24 - step)) := by
            unfold spec_l11Levels.f
            rw [wz]
            exact spec_lvls step (by omega) (by omega) 24 (24 - step) [] (by omega) (by omega) (by omega) (by simp)
          refine Ev.bind hv ?_
          exact sL
  · refine ⟨([], 1), by simp, ?_, ?_⟩
    · unfold impl_Zigzag.f; refine Ev.bind pi ?_; simp only [if_neg ok]; exact bi
    · unfold spec_Zigzag.f; refine Ev.bind ps ?_; simp only [if_neg ok]; exact bs
/-- Marks from any number on. -/
theorem mark_any (n : Nat) (hn : n ≤ 1048576) (c : Int) (c0 : 0 ≤ c) (c1 : c ≤ 9000000) : ∀ (m i : Nat) (x : List Int), i + m = n → x.length = n → ∃ x', Ev (fun k => laws_markIntS.l0 k x (c + (i : Int)) (i : Int)) (c + (n : Int), x') := by
  intro m
  induction m with
  | zero =>
    intro i x hi hx
    obtain rfl : i = n := by omega
    exact ⟨x, ev_some fun k => by simp only [laws_markIntS.l0]; rw [if_neg (by omega)]⟩
  | succ m ih =>
    intro i x hi hx
    obtain ⟨x', h⟩ := ih (i + 1) (x.set i (c + (i : Int))) (by omega) (by simpa using hx)
    refine ⟨x', ev_one (fun k => ?_) h⟩
    simp only [laws_markIntS.l0]
    rw [if_pos (by omega), if_pos (by omega)]
    simp only [Int.toNat_natCast]
    rw [wr (n := c + (i : Int) + 1) (by omega) (by omega), wr_succ i (by omega)]
    congr 1
    push_cast; omega
theorem mark_any_field (w h : Int) (l : List Int) (hn : l.length ≤ 1048576) (c : Int) (c0 : 0 ≤ c) (c1 : c ≤ 9000000) : ∃ x', Ev (fun k => laws_markField.f k w h l c) (c + (l.length : Int), x') := by
  obtain ⟨x', h⟩ := mark_any l.length hn c c0 c1 l.length 0 l (by omega) rfl
  refine ⟨x', ?_⟩
  unfold laws_markField.f laws_markIntS.f
  have h : Ev (fun k => laws_markIntS.l0 k l c 0) (c + (l.length : Int), x') := by simpa using h
  exact Ev.bind h (Ev.now _)
theorem FnExactZigzag : laws_FnExactZigzag.Plain := by
  intro w h l w' h' l' r step _ _ hl _ _ hl' _ _
  refine Ev.rounds ?_
  unfold laws_FnExactZigzag.f
  rw [sz_field w h l _ (by omega) (by omega) hl.1]
  simp only [Option.bind_some]
  by_cases hs : 1048576 - (l.length : Int) < 0
  · simp only [if_pos hs]; exact ev_const (by simp)
  simp only [if_neg hs]
  rw [sz_field w' h' l' _ (by omega) (by omega) hl'.1]
  simp only [Option.bind_some]
  by_cases hs' : 1048576 - (l.length : Int) - (l'.length : Int) < 0
  · simp only [if_pos hs']; exact ev_const (by simp)
  simp only [if_neg hs']
  have n1 : l.length ≤ 1048576 := by omega
  have n2 : l'.length ≤ 1048576 := by omega
  have hc := copy_field w h l n1
  have hc' := copy_field w' h' l' n2
  obtain ⟨⟨p, e⟩, hlen, ip, sp⟩ := zig_both w h l w' h' l' r step n1 n2
  have hlen : p.length ≤ 2000 := hlen
  have so := same_moves p (by omega)
  obtain ⟨m1, hm1⟩ := mark_any_field w h l n1 1 (by omega) (by omega)
  obtain ⟨m2, hm2⟩ := mark_any_field w' h' l' n2 (1 + (l.length : Int)) (by omega) (by omega)
  obtain ⟨p', hp, hp1, hp2⟩ := mark_held_moves p.length (by omega) p.length 0 p (by omega) rfl (fun j hj => by omega)
  have hph := held_moves p' (by omega) (by rw [hp1]; exact hp2)
  rw [hp1] at hph
  have hp : Ev (fun k => laws_markMoveS.f k p 1) (1 + 4 * (p.length : Int), p') := hp
  refine Ev.bind hc ?_
  refine Ev.bind hc' ?_
  refine Ev.bind sp ?_
  refine Ev.bind hc ?_
  refine Ev.bind hc' ?_
  refine Ev.bind ip ?_
  refine Ev.bind so ?_
  simp only [if_true, bne_self_eq_false]
  refine ev_one (fun k => by simp only [laws_FnExactZigzag.j0, Bool.false_eq_true, if_false]; rfl) ?_
  refine Ev.bind hc ?_
  refine Ev.bind (same_field w h l n1) ?_
  simp only [if_true]
  refine Ev.bind hc' ?_
  refine Ev.bind (same_field w' h' l' n2) ?_
  simp only [if_true]
  refine Ev.bind hm1 ?_
  refine Ev.bind hm2 ?_
  simp only [if_neg (show ¬ 1 + (l.length : Int) + (l'.length : Int) < 0 by omega)]
  refine Ev.bind so ?_
  simp only [if_true, bne_self_eq_false]
  refine ev_one (fun k => by simp only [laws_FnExactZigzag.j1, Bool.false_eq_true, if_false]; rfl) ?_
  refine Ev.bind hp ?_
  refine Ev.bind hph ?_
  simp only [if_neg (show ¬ 1 + 4 * (p.length : Int) < 0 by omega), if_true]
  refine Ev.bind hc ?_
  refine Ev.bind hc' ?_
  refine Ev.bind ip ?_
  refine Ev.bind so ?_
  simp only [if_true, bne_self_eq_false]
  refine ev_one (f := fun k => (laws_heldMoveS.f k p' 1).bind fun t383 => (if t383 < 0 then (some false) else (if t383 = 1 + 4 * (p.length : Int) then (some true) else (some false)))) (fun k => by simp only [laws_FnExactZigzag.j2, Bool.false_eq_true, if_false]) ?_
  refine Ev.bind hph ?_
  simp only [if_neg (show ¬ 1 + 4 * (p.length : Int) < 0 by omega), if_true]
  exact Ev.now _

end Go.Proofs.Ytgmbbcnfcddamaa.Pure
