/- FnExactFloor over numbers and lists alone: the program's Floor and the reference's answer alike at every field and tool. -/
import Derived.Test.YtgmbbcnfcddamaaSFnExactFloor
import Derived.Test.YtgmbbcnfcddamaaLib
namespace Go.Proofs.Ytgmbbcnfcddamaa.Pure
open Go.RowKit Go.Proofs.Ytgmbbcnfcddamaa.PFnExactFloor Go.Proofs.YtgmbbcnfcddamaaW.PrintWords Go.Proofs.YtgmbbcnfcddamaaW.PrintLast Go.Proofs.Ytgmbbcnfcddamaa.Lib
set_option linter.unusedVariables false
set_option linter.unusedSimpArgs false

def okCells (l : List Int) : Prop := ∀ i, i < l.length → (decide (0 ≤ rd l (i : Int) ∧ rd l (i : Int) ≤ 24)) = true
instance (l : List Int) : Decidable (okCells l) := by unfold okCells; exact inferInstance
def okField (w h : Int) (l : List Int) : Bool := decide (1 ≤ w ∧ w ≤ 24 ∧ 1 ≤ h ∧ h ≤ 24 ∧ (l.length : Int) = w * h ∧ okCells l)
theorem bd_mul {w h : Int} (h1 : 1 ≤ w) (h2 : w ≤ 24) (h3 : 1 ≤ h) (h4 : h ≤ 24) : 1 ≤ w * h ∧ w * h ≤ 576 := by
  constructor
  · have := Int.mul_le_mul h1 h3 (by omega) (by omega); omega
  · have := Int.mul_le_mul h2 h4 (by omega) (by omega); omega
theorem spec_field (w h : Int) (l : List Int) (hl : l.length ≤ 9223372036854775806) : Ev (fun k => spec_FieldOK.f k w h l) (okField w h l) := by
  have stop : okField w h l = false → Ev (fun k => spec_FieldOK.j0 k true w h l) (okField w h l) := fun h => by
    rw [h]; exact ev_some fun k => by simp only [spec_FieldOK.j0, if_true]
  unfold spec_FieldOK.f
  by_cases h1 : w < 1
  · simp only [if_pos h1]; exact stop (by simp only [okField, decide_eq_false_iff_not]; omega)
  · simp only [if_neg h1]
    by_cases h2 : w > 24
    · simp only [if_pos h2]; exact stop (by simp only [okField, decide_eq_false_iff_not]; omega)
    · simp only [if_neg h2]
      by_cases h3 : h < 1
      · simp only [if_pos h3]; exact stop (by simp only [okField, decide_eq_false_iff_not]; omega)
      · simp only [if_neg h3]
        by_cases h4 : h > 24
        · simp only [if_pos h4]; exact stop (by simp only [okField, decide_eq_false_iff_not]; omega)
        · simp only [if_neg h4]
          have hm := bd_mul (w := w) (h := h) (by omega) (by omega) (by omega) (by omega)
          rw [wr (by omega) (by omega)]
          by_cases h5 : (l.length : Int) = w * h
          · simp only [h5, bne_self_eq_false]
            refine ev_one (f := fun k => spec_FieldOK.l0 k 0 w h l) (fun k => by simp only [spec_FieldOK.j0]; rfl) ?_
            have := all_loop (r := true) (bad := false) (fun i k => spec_FieldOK.l0 k (i : Int) w h l) l.length (fun i => decide (0 ≤ rd l (i : Int) ∧ rd l (i : Int) ≤ 24)) (fun i hi hp => ⟨0, fun k _ => by
                show spec_FieldOK.l0 (k + 1) (i : Int) w h l = spec_FieldOK.l0 k ((i + 1 : Nat) : Int) w h l
                simp only [decide_eq_true_eq] at hp
                simp only [spec_FieldOK.l0]
                rw [if_pos (by omega), if_pos (by omega), if_neg (by omega), if_neg (by omega), wr_succ i (by omega)]⟩)
              (fun i hi hp => ev_some fun k => by
                show spec_FieldOK.l0 (k + 1) (i : Int) w h l = _
                simp only [decide_eq_false_iff_not] at hp
                simp only [spec_FieldOK.l0]
                rw [if_pos (by omega), if_pos (by omega)]
                by_cases h0 : rd l (i : Int) < 0
                · rw [if_pos h0]
                · rw [if_neg h0, if_pos (by omega)])
              (fun _ => ev_some fun k => by
                show spec_FieldOK.l0 (k + 1) (l.length : Int) w h l = _
                simp only [spec_FieldOK.l0]
                rw [if_neg (by omega)])
            have e : okField w h l = if okCells l then true else false := by
              unfold okField
              by_cases hc : okCells l
              · rw [if_pos hc, decide_eq_true_eq]; exact ⟨by omega, by omega, by omega, by omega, h5, hc⟩
              · rw [if_neg hc, decide_eq_false_iff_not]; exact fun h => hc h.2.2.2.2.2
            rw [e]
            exact this
          · have : ((l.length : Int) != w * h) = true := by simpa using h5
            simp only [this]; exact stop (by simp only [okField, decide_eq_false_iff_not]; exact fun h => h5 h.2.2.2.2.1)
theorem impl_field (w h : Int) (l : List Int) (hl : l.length ≤ 9223372036854775806) : Ev (fun k => impl_FieldOK.f k w h l) (okField w h l) := by
  have stop : okField w h l = false → Ev (fun k => impl_FieldOK.j0 k true w h l) (okField w h l) := fun h => by
    rw [h]; exact ev_some fun k => by simp only [impl_FieldOK.j0, if_true]
  unfold impl_FieldOK.f
  by_cases h1 : w < 1
  · simp only [if_pos h1]; exact stop (by simp only [okField, decide_eq_false_iff_not]; omega)
  · simp only [if_neg h1]
    by_cases h2 : w > 24
    · simp only [if_pos h2]; exact stop (by simp only [okField, decide_eq_false_iff_not]; omega)
    · simp only [if_neg h2]
      by_cases h3 : h < 1
      · simp only [if_pos h3]; exact stop (by simp only [okField, decide_eq_false_iff_not]; omega)
      · simp only [if_neg h3]
        by_cases h4 : h > 24
        · simp only [if_pos h4]; exact stop (by simp only [okField, decide_eq_false_iff_not]; omega)
        · simp only [if_neg h4]
          have hm := bd_mul (w := w) (h := h) (by omega) (by omega) (by omega) (by omega)
          rw [wr (by omega) (by omega)]
          by_cases h5 : (l.length : Int) = w * h
          · simp only [h5, bne_self_eq_false]
            refine ev_one (f := fun k => impl_FieldOK.l0 k l (l.length : Int) 0) (fun k => by simp only [impl_FieldOK.j0]; rfl) ?_
            have := all_loop (r := true) (bad := false) (fun i k => impl_FieldOK.l0 k l (l.length : Int) (i : Int)) l.length (fun i => decide (0 ≤ rd l (i : Int) ∧ rd l (i : Int) ≤ 24)) (fun i hi hp => ⟨0, fun k _ => by
                show impl_FieldOK.l0 (k + 1) l (l.length : Int) (i : Int) = impl_FieldOK.l0 k l (l.length : Int) ((i + 1 : Nat) : Int)
                simp only [decide_eq_true_eq] at hp
                simp only [impl_FieldOK.l0]
                rw [if_pos (by omega), if_pos (by omega), if_pos (by omega), if_neg (by omega), if_neg (by omega), wr_succ i (by omega)]⟩)
              (fun i hi hp => ev_some fun k => by
                show impl_FieldOK.l0 (k + 1) l (l.length : Int) (i : Int) = _
                simp only [decide_eq_false_iff_not] at hp
                simp only [impl_FieldOK.l0]
                rw [if_pos (by omega), if_pos (by omega), if_pos (by omega)]
                by_cases h0 : rd l (i : Int) < 0
                · rw [if_pos h0]
                · rw [if_neg h0, if_pos (by omega)])
              (fun _ => ev_some fun k => by
                show impl_FieldOK.l0 (k + 1) l (l.length : Int) (l.length : Int) = _
                simp only [impl_FieldOK.l0]
                rw [if_neg (by omega)])
            have e : okField w h l = if okCells l then true else false := by
              unfold okField
              by_cases hc : okCells l
              · rw [if_pos hc, decide_eq_true_eq]; exact ⟨by omega, by omega, by omega, by omega, h5, hc⟩
              · rw [if_neg hc, decide_eq_false_iff_not]; exact fun h => hc h.2.2.2.2.2
            rw [e]
            exact this
          · have : ((l.length : Int) != w * h) = true := by simpa using h5
            simp only [this]; exact stop (by simp only [okField, decide_eq_false_iff_not]; exact fun h => h5 h.2.2.2.2.1)

theorem sz_ints (l : List Int) (a : Int) (h0 : 0 ≤ a) (ha : a ≤ 1048576) (hl : l.length ≤ maxLen) : laws_szIntS.f l a = some (if a - (l.length : Int) < 0 then -1 else a - (l.length : Int)) := by
  unfold maxLen at hl
  unfold laws_szIntS.f
  rw [wr (by omega) (by omega)]
  split <;> rfl
theorem sz_field (w h : Int) (l : List Int) (a : Int) (h0 : 0 ≤ a) (ha : a ≤ 1048576) (hl : l.length ≤ maxLen) : laws_szField.f w h l a = some (if a - (l.length : Int) < 0 then -1 else a - (l.length : Int)) := by
  unfold laws_szField.f
  rw [sz_ints l a h0 ha hl]
  simp only [Option.bind_some]
  by_cases hh : a - (l.length : Int) < 0
  · simp only [if_pos hh]; rfl
  · simp only [if_neg hh]
theorem copy_ints (l : List Int) (h : l.length ≤ 1048576) : Ev (fun k => laws_toIntS.f k l) l := by
  have := copy_loop laws_toIntS.l0 (fun x : Int => x) 0 (fun k x0 x3 i h1 h2 => by
    simp only [laws_toIntS.l0]
    rw [if_pos (by omega), if_pos (by omega), if_pos (by omega)]
    rfl) (fun k x0 x3 => by simp only [laws_toIntS.l0]; rw [if_neg (by omega)]) l (by omega) (List.replicate l.length 0) (by simp)
  simp only [List.map_id'] at this
  unfold laws_toIntS.f
  simp only [show (0 : Int) ≤ (l.length : Int) from by omega, if_true, Int.toNat_natCast, show l.length ≤ 35184372088832 from by omega]
  exact this
theorem same_ints (l : List Int) (h : l.length ≤ 1048576) : Ev (fun k => laws_eqIntS.f k l l) true := by
  unfold laws_eqIntS.f
  simp only [if_true]
  exact same_loop laws_eqIntS.l0 l (fun k i hi => by
    simp only [laws_eqIntS.l0]
    rw [if_pos (by omega), if_pos (by omega), if_pos (by omega), if_pos trivial]) (fun k => by simp only [laws_eqIntS.l0]; rw [if_neg (by omega)]) (by omega)
theorem copy_field (w h : Int) (l : List Int) (hl : l.length ≤ 1048576) : Ev (fun k => laws_toField.f k w h l) (w, h, l) := by
  unfold laws_toField.f
  exact Ev.bind (copy_ints l hl) (Ev.now _)
theorem same_field (w h : Int) (l : List Int) (hl : l.length ≤ 1048576) : Ev (fun k => laws_eqField.f k w h l w h l) true := by
  unfold laws_eqField.f
  simp only [if_true]
  refine Ev.bind (same_ints l hl) ?_
  exact ev_const (by simp)

theorem mark_ints (n : Nat) (hn : n ≤ 1048576) : ∀ (m i : Nat) (x : List Int), i + m = n → x.length = n → (∀ j, j < i → rd x (j : Int) = 1 + (j : Int)) → ∃ x', Ev (fun k => laws_markIntS.l0 k x (1 + (i : Int)) (i : Int)) (1 + (n : Int), x') ∧ x'.length = n ∧ ∀ j, j < n → rd x' (j : Int) = 1 + (j : Int) := by
  intro m
  induction m with
  | zero =>
    intro i x hi hx hr
    obtain rfl : i = n := by omega
    exact ⟨x, ev_some fun k => by simp only [laws_markIntS.l0]; rw [if_neg (by omega)], hx, hr⟩
  | succ m ih =>
    intro i x hi hx hr
    obtain ⟨x', h, h1, h2⟩ := ih (i + 1) (x.set i (1 + (i : Int))) (by omega) (by simpa using hx) (fun j hj => by
      rw [rd_lt _ _ (by simp; omega), List.getElem_set]
      split
      · rename_i e; rw [e]
      · rw [← rd_lt _ _ (by omega)]; exact hr j (by omega))
    refine ⟨x', ev_one (fun k => ?_) h, h1, h2⟩
    simp only [laws_markIntS.l0]
    rw [if_pos (by omega), if_pos (by omega)]
    simp only [Int.toNat_natCast]
    rw [wr (n := 1 + (i : Int) + 1) (by omega) (by omega), wr_succ i (by omega)]
    congr 1
theorem held_ints (x : List Int) (hn : x.length ≤ 1048576) (h : ∀ j, j < x.length → rd x (j : Int) = 1 + (j : Int)) : Ev (fun k => laws_heldIntS.f k x 1) (1 + (x.length : Int)) := by
  have := ev_run0 (r := 1 + (x.length : Int)) (fun i k => laws_heldIntS.l0 k x (1 + (i : Int)) (i : Int)) x.length (fun i hi k => by
    show laws_heldIntS.l0 (k + 1) x (1 + (i : Int)) (i : Int) = laws_heldIntS.l0 k x (1 + ((i + 1 : Nat) : Int)) ((i + 1 : Nat) : Int)
    simp only [laws_heldIntS.l0]
    rw [if_pos (by omega), if_pos (by omega), if_pos (h i hi), wr (n := 1 + (i : Int) + 1) (by omega) (by omega), wr_succ i (by omega)]
    congr 1) (ev_some fun k => by
    show laws_heldIntS.l0 (k + 1) x (1 + (x.length : Int)) (x.length : Int) = _
    simp only [laws_heldIntS.l0]; rw [if_neg (by omega)])
  simpa [laws_heldIntS.f] using this

theorem mn_comm (a b : Int) : mn a b = mn b a := by rw [mn_eq, mn_eq]; omega
theorem mx_comm (a b : Int) : mx a b = mx b a := by rw [mx_eq, mx_eq]; omega
theorem tool_eq : ∀ k : Nat, (∀ r x y o b w h l, impl_tool.l0 k r x y o b w h l = spec_l10Columns.l0 k r x y o b w h l) ∧ (∀ r x y o b a w h l, impl_tool.l1 k r x y o b a w h l = spec_l10Columns.l1 k r x y o b a w h l) := by
  intro k
  induction k with
  | zero => exact ⟨fun _ _ _ _ _ _ _ _ => rfl, fun _ _ _ _ _ _ _ _ _ => rfl⟩
  | succ k ih =>
    obtain ⟨i0, i1⟩ := ih
    refine ⟨fun r x y o b w h l => ?_, fun r x y o b a w h l => ?_⟩
    · simp only [impl_tool.l0, spec_l10Columns.l0, i1]; rw [mn_comm, mx_comm]
    · simp only [impl_tool.l1, spec_l10Columns.l1, i0, i1]; rw [mn_comm]
theorem tool_f (k : Nat) (w h : Int) (l : List Int) (r x y : Int) : impl_tool.f k w h l r x y = spec_l10Columns.f k w h l r x y := by
  unfold impl_tool.f spec_l10Columns.f; rw [(tool_eq k).1, mx_comm]
/-- The columns under a tool: a list of right indices. -/
structure Dim (W H : Nat) (r : Int) : Prop where
  w1 : 1 ≤ W
  w2 : W ≤ 24
  h1 : 1 ≤ H
  h2 : H ≤ 24
  r0 : 0 ≤ r
  r1 : r ≤ 3
def inW (W H : Nat) (o : List Int) : Prop := ∀ c ∈ o, 0 ≤ c ∧ c < ((W * H : Nat) : Int)
theorem idx_lt {W H x y : Nat} (hx : x < W) (hy : y < H) : y * W + x < W * H := by
  have : (y + 1) * W ≤ H * W := Nat.mul_le_mul_right _ hy
  rw [Nat.succ_mul] at this
  rw [Nat.mul_comm W H]; omega
theorem idx_w {W H x y : Nat} {r : Int} (d : Dim W H r) (hx : x < W) (hy : y < H) : wrap64 (wrap64 ((y : Int) * (W : Int)) + (x : Int)) = ((y * W + x : Nat) : Int) ∧ y * W + x < 576 := by
  have := idx_lt hx hy
  have m : W * H ≤ 24 * 24 := Nat.mul_le_mul d.w2 d.h2
  have e : ((y : Int) * (W : Int)) = ((y * W : Nat) : Int) := by push_cast; rfl
  rw [e, wr (n := ((y * W : Nat) : Int)) (by omega) (by omega), wr (by omega) (by omega)]
  exact ⟨by push_cast; rfl, by omega⟩
theorem cols_in {W H : Nat} {r : Int} (d : Dim W H r) (l : List Int) (x y : Nat) (hx : x < W) (hy : y < H) (b : Nat) (hb : b < H)
    (next : ∀ o, inW W H o → o.length ≤ 24 * (b + 1) → ∃ cs, Ev (fun k => spec_l10Columns.l0 k r (x : Int) (y : Int) o ((b + 1 : Nat) : Int) (W : Int) (H : Int) l) cs ∧ inW W H cs ∧ cs.length ≤ 576) :
    ∀ (m a : Nat) (o : List Int), a + m = W → inW W H o → o.length ≤ 24 * b + a → ∃ cs, Ev (fun k => spec_l10Columns.l1 k r (x : Int) (y : Int) o (b : Int) (a : Int) (W : Int) (H : Int) l) cs ∧ inW W H cs ∧ cs.length ≤ 576 := by
  obtain ⟨w1, w2, h1, h2, r0, r1⟩ := d
  have e : mn (wrap64 ((x : Int) + r)) (wrap64 ((W : Int) - 1)) = min ((x : Int) + r) ((W : Int) - 1) := by
    rw [wr (by omega) (by omega), wr (by omega) (by omega), mn_eq]
  intro m
  induction m with
  | zero =>
    intro a o ha ho hl
    obtain ⟨cs, h, h', h''⟩ := next o ho (by omega)
    refine ⟨cs, ev_one (fun k => ?_) h, h', h''⟩
    simp only [spec_l10Columns.l1, e]
    rw [if_neg (by omega), wr_succ b (by omega)]
  | succ m ih =>
    intro a o ha ho hl
    by_cases hc : (a : Int) ≤ min ((x : Int) + r) ((W : Int) - 1)
    · by_cases hq : (wrap64 ((wrap64 ((wrap64 ((a : Int) - (x : Int))) * (wrap64 ((a : Int) - (x : Int))))) + (wrap64 ((wrap64 ((b : Int) - (y : Int))) * (wrap64 ((b : Int) - (y : Int))))))) ≤ (wrap64 (r * r))
      · have ham : a < W := by clear hq e hc; omega
        have hol : o.length < 17592186044416 := by clear hq e hc; omega
        have has : a < 9223372036854775807 := by clear hq e hc; omega
        have ha1 : a + 1 + m = W := by clear hq e hc; omega
        have hl1 : (o ++ [((b * W + a : Nat) : Int)]).length ≤ 24 * b + (a + 1) := by clear hq e hc; rw [List.length_append]; simp only [List.length_singleton]; omega
        have hi := idx_w (W := W) (H := H) (x := a) (y := b) ⟨w1, w2, h1, h2, r0, r1⟩ ham hb
        have hlt := idx_lt (W := W) (H := H) (x := a) (y := b) ham hb
        obtain ⟨cs, h, h', h''⟩ := ih (a + 1) (o ++ [((b * W + a : Nat) : Int)]) ha1 (fun c hc => by
          rcases List.mem_append.1 hc with h | h
          · exact ho c h
          · rw [List.mem_singleton] at h; rw [h]; exact ⟨Int.natCast_nonneg _, Int.ofNat_lt.2 hlt⟩) hl1
        refine ⟨cs, ev_one (fun k => ?_) h, h', h''⟩
        simp only [spec_l10Columns.l1, e]
        rw [if_pos hc, if_pos hq, if_pos hol, wr_succ a has, hi.1]
      · obtain ⟨cs, h, h', h''⟩ := ih (a + 1) o (by omega) ho (by omega)
        refine ⟨cs, ev_one (fun k => ?_) h, h', h''⟩
        simp only [spec_l10Columns.l1, e]
        rw [if_pos hc, if_neg hq, wr_succ a (by omega)]
    · obtain ⟨cs, h, h', h''⟩ := next o ho (by omega)
      refine ⟨cs, ev_one (fun k => ?_) h, h', h''⟩
      simp only [spec_l10Columns.l1, e]
      rw [if_neg hc, wr_succ b (by omega)]
theorem cols_out {W H : Nat} {r : Int} (d : Dim W H r) (l : List Int) (x y : Nat) (hx : x < W) (hy : y < H) :
    ∀ (m b : Nat) (o : List Int), b + m = H → inW W H o → o.length ≤ 24 * b → ∃ cs, Ev (fun k => spec_l10Columns.l0 k r (x : Int) (y : Int) o (b : Int) (W : Int) (H : Int) l) cs ∧ inW W H cs ∧ cs.length ≤ 576 := by
  have d' := d
  obtain ⟨w1, w2, h1, h2, r0, r1⟩ := d'
  have e : mn (wrap64 ((y : Int) + r)) (wrap64 ((H : Int) - 1)) = min ((y : Int) + r) ((H : Int) - 1) := by
    rw [wr (by omega) (by omega), wr (by omega) (by omega), mn_eq]
  intro m
  induction m with
  | zero =>
    intro b o hb ho hl
    refine ⟨o, ev_some fun k => ?_, ho, by omega⟩
    simp only [spec_l10Columns.l0, e]
    rw [if_neg (by omega)]
  | succ m ih =>
    intro b o hb ho hl
    by_cases hc : (b : Int) ≤ min ((y : Int) + r) ((H : Int) - 1)
    · have ea : mx (wrap64 ((x : Int) - r)) 0 = (((x : Int) - r).toNat : Int) := by rw [wr (by omega) (by omega), mx_eq]; omega
      have hlt : ((x : Int) - r).toNat ≤ W := by omega
      obtain ⟨cs, h, h', h''⟩ := cols_in d l x y hx hy b (by omega) (fun o' ho' hl' => ih (b + 1) o' (by omega) ho' (by omega)) (W - ((x : Int) - r).toNat) ((x : Int) - r).toNat o (by omega) ho (by omega)
      refine ⟨cs, ev_one (fun k => ?_) h, h', h''⟩
      simp only [spec_l10Columns.l0, e]
      rw [if_pos hc, ea]
    · refine ⟨o, ev_some fun k => ?_, ho, by omega⟩
      simp only [spec_l10Columns.l0, e]
      rw [if_neg hc]
theorem cols_ev {W H : Nat} {r : Int} (d : Dim W H r) (l : List Int) (x y : Nat) (hx : x < W) (hy : y < H) :
    ∃ cs, Ev (fun k => spec_l10Columns.f k (W : Int) (H : Int) l r (x : Int) (y : Int)) cs ∧ inW W H cs ∧ cs.length ≤ 576 := by
  have d' := d
  obtain ⟨w1, w2, h1, h2, r0, r1⟩ := d'
  have ea : mx (wrap64 ((y : Int) - r)) 0 = (((y : Int) - r).toNat : Int) := by rw [wr (by omega) (by omega), mx_eq]; omega
  unfold spec_l10Columns.f
  rw [ea]
  exact cols_out d l x y hx hy (H - ((y : Int) - r).toNat) _ [] (by omega) (fun c hc => by cases hc) (by simp)
open Classical in
noncomputable def colsOf (W H : Nat) (r : Int) (l : List Int) (x y : Nat) : List Int :=
  if h : ∃ cs, Ev (fun k => spec_l10Columns.f k (W : Int) (H : Int) l r (x : Int) (y : Int)) cs ∧ inW W H cs ∧ cs.length ≤ 576 then Classical.choose h else []
theorem colsOf_ok {W H : Nat} {r : Int} (d : Dim W H r) (l : List Int) (x y : Nat) (hx : x < W) (hy : y < H) :
    Ev (fun k => spec_l10Columns.f k (W : Int) (H : Int) l r (x : Int) (y : Int)) (colsOf W H r l x y) ∧ inW W H (colsOf W H r l x y) ∧ (colsOf W H r l x y).length ≤ 576 := by
  have h := cols_ev d l x y hx hy
  unfold colsOf
  rw [dif_pos h]
  exact Classical.choose_spec h
/-- The highest cell under a tool, of the first i of its columns. -/
def part (l cs : List Int) : Nat → Int
  | 0 => 0
  | i + 1 => mx (part l cs i) (rd l (rd cs (i : Int)))
noncomputable def lowAt (W H : Nat) (r : Int) (l : List Int) (i : Nat) : Int := part l (colsOf W H r l (i % W) (i / W)) (colsOf W H r l (i % W) (i / W)).length
noncomputable def lowL (W H : Nat) (r : Int) (l : List Int) (n : Nat) : List Int := (List.range n).map (lowAt W H r l)
theorem lowL_succ (W H : Nat) (r : Int) (l : List Int) (n : Nat) : lowL W H r l (n + 1) = lowL W H r l n ++ [lowAt W H r l n] := by simp [lowL, List.range_succ]
theorem lowL_len (W H : Nat) (r : Int) (l : List Int) (n : Nat) : (lowL W H r l n).length = n := by simp [lowL]
theorem lowAt_xy {W H : Nat} (r : Int) (l : List Int) {x y : Nat} (hx : x < W) : lowAt W H r l (y * W + x) = part l (colsOf W H r l x y) (colsOf W H r l x y).length := by
  have h1 : (y * W + x) % W = x := by rw [Nat.add_comm, Nat.add_mul_mod_self_right, Nat.mod_eq_of_lt hx]
  have h2 : (y * W + x) / W = y := by rw [Nat.add_comm, Nat.add_mul_div_right _ _ (by omega), Nat.div_eq_of_lt hx]; omega
  unfold lowAt; rw [h1, h2]
theorem spec_part {W H : Nat} {r : Int} (d : Dim W H r) (l : List Int) (hl : l.length = W * H) (cs : List Int) (hc : inW W H cs) (hn : cs.length ≤ 576) (o : List Int) (ho : o.length < 1000) (x y : Nat) (hx : x < W) {q : List Int}
    (h : Ev (fun k => spec_l10Lowest.l1 k r (o ++ [part l cs cs.length]) (y : Int) ((x + 1 : Nat) : Int) (W : Int) (H : Int) l) q) :
    Ev (fun k => spec_l10Lowest.l2 k r o (y : Int) (x : Int) 0 cs 0 (W : Int) (H : Int) l) q := by
  obtain ⟨w1, w2, h1, h2, r0, r1⟩ := d
  exact ev_run0 (fun i k => spec_l10Lowest.l2 k r o (y : Int) (x : Int) (part l cs i) cs (i : Int) (W : Int) (H : Int) l) cs.length (fun i hi k => by
    show spec_l10Lowest.l2 (k + 1) r o (y : Int) (x : Int) (part l cs i) cs (i : Int) (W : Int) (H : Int) l = spec_l10Lowest.l2 k r o (y : Int) (x : Int) (part l cs (i + 1)) cs ((i + 1 : Nat) : Int) (W : Int) (H : Int) l
    have hm := hc _ (rd_mem (i := (i : Int)) (by omega) (by omega))
    simp only [spec_l10Lowest.l2]
    rw [if_pos (by omega), if_pos (by omega), if_pos hm.1, if_pos (by omega), wr_succ i (by omega)]
    rfl) (ev_one (fun k => by
    show spec_l10Lowest.l2 (k + 1) r o (y : Int) (x : Int) (part l cs cs.length) cs (cs.length : Int) (W : Int) (H : Int) l = _
    simp only [spec_l10Lowest.l2]
    rw [if_neg (by omega), if_pos (by omega), wr_succ x (by omega)]) h)
theorem spec_low {W H : Nat} {r : Int} (d : Dim W H r) (l : List Int) (hl : l.length = W * H) : Ev (fun k => spec_l10Lowest.f k (W : Int) (H : Int) l r) (lowL W H r l (W * H)) := by
  have d' := d
  obtain ⟨w1, w2, h1, h2, r0, r1⟩ := d'
  have hWH : W * H ≤ 24 * 24 := Nat.mul_le_mul w2 h2
  have key := ev_steps (r := lowL W H r l (W * H)) (fun y k => spec_l10Lowest.l0 k r (lowL W H r l (y * W)) (y : Int) (W : Int) (H : Int) l) H (fun y hy h => by
    have h : Ev (fun k => spec_l10Lowest.l0 k r (lowL W H r l ((y + 1) * W)) ((y + 1 : Nat) : Int) (W : Int) (H : Int) l) _ := h
    refine ev_one (f := fun k => spec_l10Lowest.l1 k r (lowL W H r l (y * W)) (y : Int) 0 (W : Int) (H : Int) l) (fun k => by simp only [spec_l10Lowest.l0]; rw [if_pos (by omega)]) ?_
    exact ev_steps (fun x k => spec_l10Lowest.l1 k r (lowL W H r l (y * W + x)) (y : Int) (x : Int) (W : Int) (H : Int) l) W (fun x hx h' => by
      have h' : Ev (fun k => spec_l10Lowest.l1 k r (lowL W H r l (y * W + x + 1)) (y : Int) ((x + 1 : Nat) : Int) (W : Int) (H : Int) l) _ := h'
      obtain ⟨c1, c2, c3⟩ := colsOf_ok d l x y hx hy
      have hi := idx_lt hx hy
      rw [lowL_succ, lowAt_xy r l hx] at h'
      have hp := spec_part d l hl _ c2 c3 (lowL W H r l (y * W + x)) (by rw [lowL_len]; omega) x y hx h'
      refine ev_one (f := fun k => (spec_l10Columns.f k (W : Int) (H : Int) l r (x : Int) (y : Int)).bind fun t117 => (spec_l10Lowest.l2 k r (lowL W H r l (y * W + x)) (y : Int) (x : Int) 0 t117 0 (W : Int) (H : Int) l)) (fun k => by simp only [spec_l10Lowest.l1]; rw [if_pos (by omega)]) ?_
      exact Ev.bind c1 hp) (ev_one (fun k => by
        show spec_l10Lowest.l1 (k + 1) r (lowL W H r l (y * W + W)) (y : Int) (W : Int) (W : Int) (H : Int) l = _
        simp only [spec_l10Lowest.l1]
        rw [if_neg (by omega), wr_succ y (by omega), ← Nat.succ_mul]) h)) (ev_some fun k => by
    show spec_l10Lowest.l0 (k + 1) r (lowL W H r l (H * W)) (H : Int) (W : Int) (H : Int) l = _
    simp only [spec_l10Lowest.l0]
    rw [if_neg (by omega), Nat.mul_comm])
  simpa [spec_l10Lowest.f, lowL] using key
theorem rd_mid (A B : List Int) (p : Int) (n : Nat) (h : A.length = n) : rd (A ++ p :: B) (n : Int) = p := by
  rw [rd_lt _ _ (by simp; omega), List.getElem_append_right (by omega)]; simp [h]
theorem set_mid (A B : List Int) (p q : Int) (n : Nat) (h : A.length = n) : (A ++ p :: B).set n q = A ++ q :: B := by
  rw [List.set_append_right _ _ (by omega), h, Nat.sub_self]; rfl
theorem impl_part {W H : Nat} {r : Int} (d : Dim W H r) (l : List Int) (hl : l.length = W * H) (cs : List Int) (hc : inW W H cs) (hn : cs.length ≤ 576) (x y : Nat) (hx : x < W) (hy : y < H) (A B : List Int) (hA : A.length = y * W + x) {q : List Int}
    (h : Ev (fun k => impl_lowest.l1 k r (A ++ part l cs cs.length :: B) (y : Int) ((x + 1 : Nat) : Int) (W : Int) (H : Int) l) q) :
    Ev (fun k => impl_lowest.l2 k r (A ++ 0 :: B) (y : Int) (x : Int) cs (cs.length : Int) 0 (W : Int) (H : Int) l) q := by
  obtain ⟨iw, ib⟩ := idx_w d hx hy
  obtain ⟨w1, w2, h1, h2, r0, r1⟩ := d
  exact ev_run0 (fun i k => impl_lowest.l2 k r (A ++ part l cs i :: B) (y : Int) (x : Int) cs (cs.length : Int) (i : Int) (W : Int) (H : Int) l) cs.length (fun i hi k => by
    show impl_lowest.l2 (k + 1) r (A ++ part l cs i :: B) (y : Int) (x : Int) cs (cs.length : Int) (i : Int) (W : Int) (H : Int) l = impl_lowest.l2 k r (A ++ part l cs (i + 1) :: B) (y : Int) (x : Int) cs (cs.length : Int) ((i + 1 : Nat) : Int) (W : Int) (H : Int) l
    have hm := hc _ (rd_mem (i := (i : Int)) (by omega) (by omega))
    simp only [impl_lowest.l2, iw, Int.toNat_natCast]
    rw [if_pos (by omega), if_pos (by omega), if_pos (by omega), if_pos (by omega), if_pos (by simp; omega), if_pos hm.1, if_pos (by omega), wr_succ i (by omega), rd_mid _ _ _ _ hA, set_mid _ _ _ _ _ hA]
    rfl) (ev_one (fun k => by
    show impl_lowest.l2 (k + 1) r (A ++ part l cs cs.length :: B) (y : Int) (x : Int) cs (cs.length : Int) (cs.length : Int) (W : Int) (H : Int) l = _
    simp only [impl_lowest.l2]
    rw [if_neg (by omega), wr_succ x (by omega)]) h)
theorem impl_low {W H : Nat} {r : Int} (d : Dim W H r) (l : List Int) (hl : l.length = W * H) : Ev (fun k => impl_lowest.f k (W : Int) (H : Int) l r) (lowL W H r l (W * H)) := by
  have d' := d
  obtain ⟨w1, w2, h1, h2, r0, r1⟩ := d'
  have hWH : W * H ≤ 24 * 24 := Nat.mul_le_mul w2 h2
  have eW : ((W : Int) * (H : Int)) = ((W * H : Nat) : Int) := by push_cast; rfl
  unfold impl_lowest.f
  rw [eW, wr (n := ((W * H : Nat) : Int)) (by omega) (by omega)]
  simp only [show (0 : Int) ≤ ((W * H : Nat) : Int) by omega, Int.toNat_natCast, show W * H ≤ 35184372088832 by omega, if_true]
  have key := ev_steps (r := lowL W H r l (W * H)) (fun y k => impl_lowest.l0 k r (lowL W H r l (y * W) ++ List.replicate (W * H - y * W) 0) (y : Int) (W : Int) (H : Int) l) H (fun y hy h => by
    have h : Ev (fun k => impl_lowest.l0 k r (lowL W H r l ((y + 1) * W) ++ List.replicate (W * H - (y + 1) * W) 0) ((y + 1 : Nat) : Int) (W : Int) (H : Int) l) _ := h
    refine ev_one (f := fun k => impl_lowest.l1 k r (lowL W H r l (y * W) ++ List.replicate (W * H - y * W) 0) (y : Int) 0 (W : Int) (H : Int) l) (fun k => by simp only [impl_lowest.l0]; rw [if_pos (by omega)]) ?_
    exact ev_steps (fun x k => impl_lowest.l1 k r (lowL W H r l (y * W + x) ++ List.replicate (W * H - (y * W + x)) 0) (y : Int) (x : Int) (W : Int) (H : Int) l) W (fun x hx h' => by
      have h' : Ev (fun k => impl_lowest.l1 k r (lowL W H r l (y * W + x + 1) ++ List.replicate (W * H - (y * W + x + 1)) 0) (y : Int) ((x + 1 : Nat) : Int) (W : Int) (H : Int) l) _ := h'
      obtain ⟨c1, c2, c3⟩ := colsOf_ok d l x y hx hy
      have hi := idx_lt hx hy
      rw [lowL_succ, lowAt_xy r l hx, List.append_assoc] at h'
      have hp := impl_part d l hl _ c2 c3 x y hx hy (lowL W H r l (y * W + x)) _ (by rw [lowL_len]) h'
      show Ev (fun k => impl_lowest.l1 k r (lowL W H r l (y * W + x) ++ List.replicate (W * H - (y * W + x)) 0) (y : Int) (x : Int) (W : Int) (H : Int) l) _
      rw [show W * H - (y * W + x) = (W * H - (y * W + x + 1)) + 1 by omega, List.replicate_succ]
      refine ev_one (f := fun k => (spec_l10Columns.f k (W : Int) (H : Int) l r (x : Int) (y : Int)).bind fun t165 => (impl_lowest.l2 k r (lowL W H r l (y * W + x) ++ 0 :: List.replicate (W * H - (y * W + x + 1)) 0) (y : Int) (x : Int) t165 (t165.length : Int) 0 (W : Int) (H : Int) l)) (fun k => by simp only [impl_lowest.l1, tool_f]; rw [if_pos (by omega)]) ?_
      exact Ev.bind c1 hp) (ev_one (fun k => by
        show impl_lowest.l1 (k + 1) r (lowL W H r l (y * W + W) ++ List.replicate (W * H - (y * W + W)) 0) (y : Int) (W : Int) (W : Int) (H : Int) l = _
        simp only [impl_lowest.l1]
        rw [if_neg (by omega), wr_succ y (by omega), ← Nat.succ_mul]) h)) (ev_some fun k => by
    show impl_lowest.l0 (k + 1) r (lowL W H r l (H * W) ++ List.replicate (W * H - H * W) 0) (H : Int) (W : Int) (H : Int) l = _
    simp only [impl_lowest.l0]
    rw [if_neg (by omega), Nat.mul_comm H W, Nat.sub_self]; simp)
  simpa [lowL] using key
/-- The last part: what both do alike, round by round. -/
theorem floor_eq : ∀ k : Nat, (∀ r t y w h l a b c, impl_Floor.l1 k r t y w h l a b c = spec_Floor.l1 k r t y w h l a b c) ∧ (∀ r t y x w h l a b c, impl_Floor.l2 k r t y x w h l a b c = spec_Floor.l2 k r t y x w h l a b c) ∧ (∀ r t y x cs i w h l a b c, impl_Floor.l3 k r t y x cs (cs.length : Int) i w h l a b c = spec_Floor.l3 k r t y x cs i w h l a b c) := by
  intro k
  induction k with
  | zero => exact ⟨fun _ _ _ _ _ _ _ _ _ => rfl, fun _ _ _ _ _ _ _ _ _ _ => rfl, fun _ _ _ _ _ _ _ _ _ _ _ _ => rfl⟩
  | succ k ih =>
    obtain ⟨i1, i2, i3⟩ := ih
    refine ⟨fun r t y w h l a b c => ?_, fun r t y x w h l a b c => ?_, fun r t y x cs i w h l a b c => ?_⟩
    · simp only [impl_Floor.l1, spec_Floor.l1, i2]
    · simp only [impl_Floor.l2, spec_Floor.l2, i1, i3, tool_f]
    · simp only [impl_Floor.l3, spec_Floor.l3, i2, i3]
      by_cases g : i < (cs.length : Int)
      · simp only [if_pos g]
      · simp only [if_neg g]
theorem end_in {W H : Nat} {r : Int} (d : Dim W H r) (l t : List Int) (ht : t.length = W * H) (x y : Nat) (hx : x < W) (hy : y < H) (cs : List Int) (hc : inW W H cs) (hn : cs.length ≤ 576)
    (next : ∀ o : List Int, o.length = W * H → ∃ o', Ev (fun k => spec_Floor.l2 k r t (y : Int) ((x + 1 : Nat) : Int) (W : Int) (H : Int) l (W : Int) (H : Int) o) ((W : Int), (H : Int), o', 0) ∧ o'.length = W * H) :
    ∀ (m i : Nat) (o : List Int), i + m = cs.length → o.length = W * H → ∃ o', Ev (fun k => spec_Floor.l3 k r t (y : Int) (x : Int) cs (i : Int) (W : Int) (H : Int) l (W : Int) (H : Int) o) ((W : Int), (H : Int), o', 0) ∧ o'.length = W * H := by
  obtain ⟨iw, ib⟩ := idx_w d hx hy
  have hi := idx_lt hx hy
  obtain ⟨w1, w2, h1, h2, r0, r1⟩ := d
  intro m
  induction m with
  | zero =>
    intro i o hi ho
    obtain ⟨o', h, h'⟩ := next o ho
    refine ⟨o', ev_one (fun k => ?_) h, h'⟩
    simp only [spec_Floor.l3]
    rw [if_neg (by omega), wr_succ x (by omega)]
  | succ m ih =>
    intro i o him ho
    have hm := hc _ (rd_mem (i := (i : Int)) (by omega) (show (i : Int) < (cs.length : Int) by omega))
    obtain ⟨o', h, h'⟩ := ih (i + 1) (o.set (rd cs (i : Int)).toNat (mn (rd o (rd cs (i : Int))) (rd t ((y * W + x : Nat) : Int)))) (by omega) (by simpa using ho)
    refine ⟨o', ev_one (fun k => ?_) h, h'⟩
    simp only [spec_Floor.l3, iw]
    rw [if_pos (by omega), if_pos (by omega), if_pos hm.1, if_pos (by omega), if_pos (by omega), if_pos (by omega), wr_succ i (by omega)]
theorem end_row {W H : Nat} {r : Int} (d : Dim W H r) (l t : List Int) (ht : t.length = W * H) (y : Nat) (hy : y < H)
    (next : ∀ o : List Int, o.length = W * H → ∃ o', Ev (fun k => spec_Floor.l1 k r t ((y + 1 : Nat) : Int) (W : Int) (H : Int) l (W : Int) (H : Int) o) ((W : Int), (H : Int), o', 0) ∧ o'.length = W * H) :
    ∀ (m x : Nat) (o : List Int), x + m = W → o.length = W * H → ∃ o', Ev (fun k => spec_Floor.l2 k r t (y : Int) (x : Int) (W : Int) (H : Int) l (W : Int) (H : Int) o) ((W : Int), (H : Int), o', 0) ∧ o'.length = W * H := by
  have d' := d
  obtain ⟨w1, w2, h1, h2, r0, r1⟩ := d'
  intro m
  induction m with
  | zero =>
    intro x o hx ho
    obtain ⟨o', h, h'⟩ := next o ho
    refine ⟨o', ev_one (fun k => ?_) h, h'⟩
    simp only [spec_Floor.l2]
    rw [if_neg (by omega), wr_succ y (by omega)]
  | succ m ih =>
    intro x o hx ho
    obtain ⟨c1, c2, c3⟩ := colsOf_ok d l x y (by omega) hy
    obtain ⟨o', h, h'⟩ := end_in d l t ht x y (by omega) hy _ c2 c3 (fun o ho => ih (x + 1) o (by omega) ho) _ 0 o (Nat.zero_add _) ho
    refine ⟨o', ev_one (f := fun k => (spec_l10Columns.f k (W : Int) (H : Int) l r (x : Int) (y : Int)).bind fun t136 => (spec_Floor.l3 k r t (y : Int) (x : Int) t136 0 (W : Int) (H : Int) l (W : Int) (H : Int) o)) (fun k => ?_) (Ev.bind c1 h), h'⟩
    simp only [spec_Floor.l2]
    rw [if_pos (by omega)]
theorem end_all {W H : Nat} {r : Int} (d : Dim W H r) (l t : List Int) (ht : t.length = W * H) :
    ∀ (m y : Nat) (o : List Int), y + m = H → o.length = W * H → ∃ o', Ev (fun k => spec_Floor.l1 k r t (y : Int) (W : Int) (H : Int) l (W : Int) (H : Int) o) ((W : Int), (H : Int), o', 0) ∧ o'.length = W * H := by
  have d' := d
  obtain ⟨w1, w2, h1, h2, r0, r1⟩ := d'
  intro m
  induction m with
  | zero =>
    intro y o hy ho
    exact ⟨o, ev_some fun k => by simp only [spec_Floor.l1]; rw [if_neg (by omega)], ho⟩
  | succ m ih =>
    intro y o hy ho
    obtain ⟨o', h, h'⟩ := end_row d l t ht y (by omega) (fun o ho => ih (y + 1) o (by omega) ho) W 0 o (by omega) ho
    refine ⟨o', ev_one (fun k => ?_) h, h'⟩
    simp only [spec_Floor.l1]
    rw [if_pos (by omega)]; rfl
theorem floor_both (w h : Int) (l : List Int) (r : Int) (hl : l.length ≤ 1048576) : ∃ a b o c, Ev (fun k => spec_Floor.f k w h l r) (a, b, o, c) ∧ Ev (fun k => impl_Floor.f k w h l r) (a, b, o, c) ∧ o.length ≤ 576 := by
  unfold spec_Floor.f impl_Floor.f
  have stopS : Ev (fun k => spec_Floor.j0 k r true w h l) (0, 0, [], 1) := ev_some fun k => by simp only [spec_Floor.j0, if_true]
  have stopI : Ev (fun k => impl_Floor.j0 k r true w h l) (0, 0, [], 1) := ev_some fun k => by simp only [impl_Floor.j0, if_true]
  by_cases hf : okField w h l = true
  · have s := spec_field w h l (by omega)
    have i := impl_field w h l (by omega)
    rw [hf] at s i
    have hx := of_decide_eq_true hf
    by_cases hr : 0 ≤ r ∧ r ≤ 3
    · obtain ⟨W, rfl⟩ : ∃ W : Nat, w = (W : Int) := ⟨w.toNat, by omega⟩
      obtain ⟨H, rfl⟩ : ∃ H : Nat, h = (H : Int) := ⟨h.toNat, by omega⟩
      have hlen : l.length = W * H := by have := hx.2.2.2.2.1; rw [← Int.natCast_mul] at this; omega
      have d : Dim W H r := ⟨by omega, by omega, by omega, by omega, hr.1, hr.2⟩
      have hWH : W * H ≤ 24 * 24 := Nat.mul_le_mul d.w2 d.h2
      obtain ⟨o, he, ho⟩ := end_all d l (lowL W H r l (W * H)) (lowL_len _ _ _ _ _) H 0 (List.replicate (W * H) 24) (by omega) (by simp)
      refine ⟨(W : Int), (H : Int), o, 0, ?_, ?_, by omega⟩
      · refine Ev.bind s ?_
        simp only [if_true, spec_l10Tool.f, if_pos hr.1, Option.bind_some, show r ≥ 0 from hr.1, show decide (r ≤ 3) = true from decide_eq_true hr.2, Bool.not_true]
        refine ev_one (f := fun k => (spec_l10Lowest.f k (W : Int) (H : Int) l r).bind fun t129 => (spec_Floor.l0 k r t129 0 (W : Int) (H : Int) l (W : Int) (H : Int) ([] : List Int))) (fun k => by simp only [spec_Floor.j0, Bool.false_eq_true, if_false]) ?_
        refine Ev.bind (spec_low d l hlen) ?_
        have := ev_run0 (r := ((W : Int), (H : Int), o, (0 : Int))) (fun i k => spec_Floor.l0 k r (lowL W H r l (W * H)) (i : Int) (W : Int) (H : Int) l (W : Int) (H : Int) (List.replicate i 24)) (W * H) (fun i hi k => by
          show spec_Floor.l0 (k + 1) r (lowL W H r l (W * H)) (i : Int) (W : Int) (H : Int) l (W : Int) (H : Int) (List.replicate i 24) = spec_Floor.l0 k r (lowL W H r l (W * H)) ((i + 1 : Nat) : Int) (W : Int) (H : Int) l (W : Int) (H : Int) (List.replicate (i + 1) 24)
          simp only [spec_Floor.l0, List.length_replicate]
          rw [if_pos (by omega), if_pos (by omega), wr_succ i (by omega), List.replicate_succ']) (ev_one (fun k => by
          show spec_Floor.l0 (k + 1) r (lowL W H r l (W * H)) ((W * H : Nat) : Int) (W : Int) (H : Int) l (W : Int) (H : Int) (List.replicate (W * H) 24) = _
          simp only [spec_Floor.l0]
          rw [if_neg (by omega)]; rfl) he)
        exact this
      · refine Ev.bind i ?_
        simp only [if_true, impl_toolOK.f, Option.bind_some, show r ≥ 0 from hr.1, show decide (r ≤ 3) = true from decide_eq_true hr.2, Bool.not_true]
        refine ev_one (f := fun k => (impl_lowest.f k (W : Int) (H : Int) l r).bind fun t176 => (if 0 ≤ (t176.length : Int) then (if ((t176.length : Int) : Int).toNat ≤ 35184372088832 then ((some (List.replicate ((t176.length : Int) : Int).toNat 0 : List Int)).bind fun y179 => (impl_Floor.l0 k r t176 (y179.length : Int) 0 (W : Int) (H : Int) l (W : Int) (H : Int) y179)) else (none)) else (none))) (fun k => by simp only [impl_Floor.j0, Bool.false_eq_true, if_false]) ?_
        refine Ev.bind (impl_low d l hlen) ?_
        simp only [lowL_len, Int.toNat_natCast, show (0 : Int) ≤ ((W * H : Nat) : Int) by omega, show W * H ≤ 35184372088832 by omega, if_true, Option.bind_some, List.length_replicate]
        have := ev_run0 (r := ((W : Int), (H : Int), o, (0 : Int))) (fun i k => impl_Floor.l0 k r (lowL W H r l (W * H)) ((W * H : Nat) : Int) (i : Int) (W : Int) (H : Int) l (W : Int) (H : Int) (List.replicate i 24 ++ List.replicate (W * H - i) 0)) (W * H) (fun i hi k => by
          show impl_Floor.l0 (k + 1) r (lowL W H r l (W * H)) ((W * H : Nat) : Int) (i : Int) (W : Int) (H : Int) l (W : Int) (H : Int) (List.replicate i 24 ++ List.replicate (W * H - i) 0) = impl_Floor.l0 k r (lowL W H r l (W * H)) ((W * H : Nat) : Int) ((i + 1 : Nat) : Int) (W : Int) (H : Int) l (W : Int) (H : Int) (List.replicate (i + 1) 24 ++ List.replicate (W * H - (i + 1)) 0)
          simp only [impl_Floor.l0, Int.toNat_natCast]
          rw [if_pos (by omega), if_pos (by omega), if_pos (by simp; omega), wr_succ i (by omega), show W * H - i = (W * H - (i + 1)) + 1 by omega, List.replicate_succ, set_mid _ _ _ _ _ (by simp), List.replicate_succ', List.append_assoc]
          rfl) (ev_one (f := fun k => spec_Floor.l1 k r (lowL W H r l (W * H)) 0 (W : Int) (H : Int) l (W : Int) (H : Int) (List.replicate (W * H) 24)) (fun k => by
          show impl_Floor.l0 (k + 1) r (lowL W H r l (W * H)) ((W * H : Nat) : Int) ((W * H : Nat) : Int) (W : Int) (H : Int) l (W : Int) (H : Int) (List.replicate (W * H) 24 ++ List.replicate (W * H - W * H) 0) = _
          simp only [impl_Floor.l0, (floor_eq k).1]
          rw [if_neg (by omega), Nat.sub_self]; simp) he)
        simpa using this
    · refine ⟨0, 0, [], 1, ?_, ?_, by simp⟩
      · refine Ev.bind s ?_
        have : (spec_l10Tool.f r) = some false := by
          unfold spec_l10Tool.f
          by_cases g : r ≥ 0
          · rw [if_pos g, decide_eq_false (by omega)]
          · rw [if_neg g]
        simp only [if_true, this, Option.bind_some, Bool.not_false]; exact stopS
      · refine Ev.bind i ?_
        have : (impl_toolOK.f r) = some false := by
          unfold impl_toolOK.f
          by_cases g : r ≥ 0
          · rw [if_pos g, decide_eq_false (by omega)]
          · rw [if_neg g]
        simp only [if_true, this, Option.bind_some, Bool.not_false]; exact stopI
  · have hf : okField w h l = false := by simpa using hf
    have s := spec_field w h l (by omega)
    have i := impl_field w h l (by omega)
    rw [hf] at s i
    refine ⟨0, 0, [], 1, ?_, ?_, by simp⟩
    · refine Ev.bind s ?_
      simp only [Bool.false_eq_true, if_false]; exact stopS
    · refine Ev.bind i ?_
      simp only [Bool.false_eq_true, if_false]; exact stopI

theorem FnExactFloor : laws_FnExactFloor.Plain := by
  intro w h l r _ _ hl _
  refine Ev.rounds ?_
  unfold laws_FnExactFloor.f
  rw [sz_field w h l _ (by omega) (by omega) hl.1]
  simp only [Option.bind_some]
  by_cases hs : 1048576 - (l.length : Int) < 0
  · simp only [if_pos hs]; exact ev_const (by simp)
  simp only [if_neg hs]
  have hc := copy_field w h l (by omega)
  obtain ⟨a, b, o, c, sp, ip, hlen⟩ := floor_both w h l r (by omega)
  have so := same_field a b o (by omega)
  refine Ev.bind hc ?_
  refine Ev.bind sp ?_
  refine Ev.bind hc ?_
  refine Ev.bind ip ?_
  refine Ev.bind so ?_
  simp only [if_true, bne_self_eq_false]
  obtain ⟨l', hm, _, _⟩ := mark_ints l.length (by omega) l.length 0 l (by omega) rfl (fun j hj => by omega)
  obtain ⟨o', ho, ho1, ho2⟩ := mark_ints o.length (by omega) o.length 0 o (by omega) rfl (fun j hj => by omega)
  have hh := held_ints o' (by omega) (by rw [ho1]; exact ho2)
  rw [ho1] at hh
  have hm : Ev (fun k => laws_markIntS.f k l 1) (1 + (l.length : Int), l') := hm
  have ho : Ev (fun k => laws_markIntS.f k o 1) (1 + (o.length : Int), o') := ho
  have hm' : Ev (fun k => laws_markField.f k w h l 1) (1 + (l.length : Int), l') := by unfold laws_markField.f; exact Ev.bind hm (Ev.now _)
  have ho' : Ev (fun k => laws_markField.f k a b o 1) (1 + (o.length : Int), o') := by unfold laws_markField.f; exact Ev.bind ho (Ev.now _)
  have hh' : Ev (fun k => laws_heldField.f k a b o' 1) (1 + (o.length : Int)) := by
    unfold laws_heldField.f; refine Ev.bind hh ?_; rw [if_neg (by omega)]; exact Ev.now _
  have last : Ev (fun k => laws_FnExactFloor.j2 k (1 + (o.length : Int)) false a b o') true := by
    refine ev_one (f := fun k => (laws_heldField.f k a b o' 1).bind fun t256 => (if t256 < 0 then (some false) else (if t256 = 1 + (o.length : Int) then (some true) else (some false)))) (fun k => by simp only [laws_FnExactFloor.j2, Bool.false_eq_true, if_false]) ?_
    refine Ev.bind hh' ?_
    simp only [if_true]
    rw [if_neg (by omega)]; exact Ev.now _
  refine ev_one (fun k => by simp only [laws_FnExactFloor.j0, Bool.false_eq_true, if_false]; rfl) ?_
  refine Ev.bind hc ?_
  refine Ev.bind (same_field w h l (by omega)) ?_
  simp only [if_true]
  refine Ev.bind hm' ?_
  simp only [if_neg (show ¬ 1 + (l.length : Int) < 0 by omega)]
  refine Ev.bind so ?_
  simp only [if_true, bne_self_eq_false]
  refine ev_one (fun k => by simp only [laws_FnExactFloor.j1, Bool.false_eq_true, if_false]; rfl) ?_
  refine Ev.bind ho' ?_
  refine Ev.bind hh' ?_
  simp only [if_neg (show ¬ 1 + (o.length : Int) < 0 by omega), if_true]
  refine Ev.bind hc ?_
  refine Ev.bind ip ?_
  refine Ev.bind so ?_
  simp only [if_true, bne_self_eq_false]
  exact last
end Go.Proofs.Ytgmbbcnfcddamaa.Pure
