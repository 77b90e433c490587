/- Written for this claim by a program of this session: the functions that the law reaches, each with its contract. -/
import Derived.Test.YthmeijbiemkbaaaDoorPFnExactBoundx0
import Derived.Test.YthmeijbiemkbaaaDoorPFnExactBoundx8
namespace Go.Proofs.YthmeijbiemkbaaaDoor.PFnExactBound
open Go.RowKit Go.Proofs.YthmeijbiemkbaaaDoorW.PrintWords Go.Proofs.YthmeijbiemkbaaaDoorW.PrintLast Go.Proofs.YthmeijbiemkbaaaDoorW.PrintMore Go.Proofs.YthmeijbiemkbaaaDoor.Seen
attribute [local go_sem] i64_w max2_int min2_int max_two min_two max_three min_three max_four min_four   -- for this text's walks alone
set_option linter.unusedVariables false
set_option linter.unusedSimpArgs false

/-! ### impl_ShopOK: function 17 -/
mutual
def impl_ShopOK.j0 : Nat → List (S68) → Bool → Int → Int → Int → Option (Bool)
 | 0, _, _, _, _, _ => none
 | k + 1, x1, x42, x190000, x190001, x190002 => if x42 = true then (some false) else (impl_ShopOK.l0 k [] x1 (x1.length : Int) 0 x190000 x190001 x190002)
def impl_ShopOK.l0 : Nat → List ByteArray → List (S68) → Int → Int → Int → Int → Int → Option (Bool)
 | 0, _, _, _, _, _, _, _ => none
 | k + 1, x5, x44, x45, x46, x190000, x190001, x190002 => if x46 < x45 then (if 0 ≤ x46 then (if x46 < (x44.length : Int) then ((impl_NameOK.f k ((rd_T68 x44 x46).f0)).bind fun t192 => (if t192 = true then (if ((rd_T68 x44 x46).f0).size ≤ 40 then (if x5.length < 1000 then (if inB x5 ((rd_T68 x44 x46).f0) = true then (impl_ShopOK.j2 k x5 x44 x45 x46 true x190000 x190001 x190002 ((rd_T68 x44 x46).f0) ((rd_T68 x44 x46).f1) ((rd_T68 x44 x46).f2)) else (if ((rd_T68 x44 x46).f1) < 0 then (impl_ShopOK.j2 k x5 x44 x45 x46 true x190000 x190001 x190002 ((rd_T68 x44 x46).f0) ((rd_T68 x44 x46).f1) ((rd_T68 x44 x46).f2)) else (if ((rd_T68 x44 x46).f1) > 1000000 then (impl_ShopOK.j2 k x5 x44 x45 x46 true x190000 x190001 x190002 ((rd_T68 x44 x46).f0) ((rd_T68 x44 x46).f1) ((rd_T68 x44 x46).f2)) else (if (((rd_T68 x44 x46).f2).length : Int) < 1 then (impl_ShopOK.j2 k x5 x44 x45 x46 true x190000 x190001 x190002 ((rd_T68 x44 x46).f0) ((rd_T68 x44 x46).f1) ((rd_T68 x44 x46).f2)) else (impl_ShopOK.j2 k x5 x44 x45 x46 (decide ((((rd_T68 x44 x46).f2).length : Int) > 8)) x190000 x190001 x190002 ((rd_T68 x44 x46).f0) ((rd_T68 x44 x46).f1) ((rd_T68 x44 x46).f2)))))) else (none)) else (none)) else (impl_ShopOK.j2 k x5 x44 x45 x46 true x190000 x190001 x190002 ((rd_T68 x44 x46).f0) ((rd_T68 x44 x46).f1) ((rd_T68 x44 x46).f2)))) else (none)) else (none)) else (some true)
def impl_ShopOK.j2 : Nat → List ByteArray → List (S68) → Int → Int → Bool → Int → Int → Int → ByteArray → Int → List (S71) → Option (Bool)
 | 0, _, _, _, _, _, _, _, _, _, _, _ => none
 | k + 1, x5, x44, x45, x46, x81, x190000, x190001, x190002, x192000, x192001, x192002 => if x81 = true then (some false) else (if ((rd_T68 x44 x46).f0).size ≤ 40 then (if x5.length < 1000 then (impl_ShopOK.l1 k (x5 ++ [((rd_T68 x44 x46).f0)]) x44 x45 x46 x192002 (x192002.length : Int) 0 x190000 x190001 x190002) else (none)) else (none))
def impl_ShopOK.l1 : Nat → List ByteArray → List (S68) → Int → Int → List (S71) → Int → Int → Int → Int → Int → Option (Bool)
 | 0, _, _, _, _, _, _, _, _, _, _ => none
 | k + 1, x5, x44, x45, x46, x86, x87, x88, x190000, x190001, x190002 => if x88 < x87 then (if 0 ≤ x88 then (if x88 < (x86.length : Int) then (if ((rd_T71 x86 x88).f0) < 0 then (some false) else (if ((rd_T71 x86 x88).f0) ≥ x190000 then (some false) else (if ((rd_T71 x86 x88).f1) < 1 then (some false) else (if ((rd_T71 x86 x88).f1) > 1000 then (some false) else (if ((rd_T71 x86 x88).f2) < 0 then (some false) else (if ((rd_T71 x86 x88).f2) > 9 then (some false) else (if ((rd_T71 x86 x88).f3) < 0 then (some false) else (if ((rd_T71 x86 x88).f3) > x190002 then (some false) else (impl_ShopOK.l1 k x5 x44 x45 x46 x86 x87 (wrap64 (x88 + 1)) x190000 x190001 x190002))))))))) else (none)) else (none)) else (impl_ShopOK.l0 k x5 x44 x45 (wrap64 (x46 + 1)) x190000 x190001 x190002)
end
def impl_ShopOK.f (k : Nat) (a0_0 : Int) (a0_1 : Int) (a0_2 : Int) (l1 : List (S68)) : Option (Bool) := if (l1.length : Int) > 20 then (impl_ShopOK.j0 k l1 true a0_0 a0_1 a0_2) else (if a0_0 < 1 then (impl_ShopOK.j0 k l1 true a0_0 a0_1 a0_2) else (if a0_0 > 6 then (impl_ShopOK.j0 k l1 true a0_0 a0_1 a0_2) else (if a0_1 < 0 then (impl_ShopOK.j0 k l1 true a0_0 a0_1 a0_2) else (if a0_1 > 1000 then (impl_ShopOK.j0 k l1 true a0_0 a0_1 a0_2) else (if a0_2 < 1 then (impl_ShopOK.j0 k l1 true a0_0 a0_1 a0_2) else (impl_ShopOK.j0 k l1 (decide (a0_2 > 1000)) a0_0 a0_1 a0_2))))))
theorem impl_ShopOK.mono_l : ∀ k, (∀ y0 y1 y2 y3 y4, LeO (impl_ShopOK.j0 k y0 y1 y2 y3 y4) (impl_ShopOK.j0 (k + 1) y0 y1 y2 y3 y4)) ∧ (∀ y0 y1 y2 y3 y4 y5 y6, LeO (impl_ShopOK.l0 k y0 y1 y2 y3 y4 y5 y6) (impl_ShopOK.l0 (k + 1) y0 y1 y2 y3 y4 y5 y6)) ∧ (∀ y0 y1 y2 y3 y4 y5 y6 y7 y8 y9 y10, LeO (impl_ShopOK.j2 k y0 y1 y2 y3 y4 y5 y6 y7 y8 y9 y10) (impl_ShopOK.j2 (k + 1) y0 y1 y2 y3 y4 y5 y6 y7 y8 y9 y10)) ∧ (∀ y0 y1 y2 y3 y4 y5 y6 y7 y8 y9, LeO (impl_ShopOK.l1 k y0 y1 y2 y3 y4 y5 y6 y7 y8 y9) (impl_ShopOK.l1 (k + 1) y0 y1 y2 y3 y4 y5 y6 y7 y8 y9))
 | 0 => ⟨fun _ _ _ _ _ r h => by simp [impl_ShopOK.j0] at h, fun _ _ _ _ _ _ _ r h => by simp [impl_ShopOK.l0] at h, fun _ _ _ _ _ _ _ _ _ _ _ r h => by simp [impl_ShopOK.j2] at h, fun _ _ _ _ _ _ _ _ _ _ r h => by simp [impl_ShopOK.l1] at h⟩
 | k + 1 => by
  obtain ⟨ih0, ih1, ih2, ih3⟩ := impl_ShopOK.mono_l k
  refine ⟨?_, ?_, ?_, ?_⟩
  ·intro y0 y1 y2 y3 y4
   unfold impl_ShopOK.j0
   repeat' first
   | (with_reducible exact ih0 _ _ _ _ _)
   | (with_reducible exact ih1 _ _ _ _ _ _ _)
   | (with_reducible exact ih2 _ _ _ _ _ _ _ _ _ _ _)
   | (with_reducible exact ih3 _ _ _ _ _ _ _ _ _ _)
   | (with_reducible exact impl_NameOK.mono _ _)
   | (with_reducible exact LeO.refl _)
   | (with_reducible exact LeO.none _)
   | (with_reducible refine LeO.ite ?_ ?_)
   | (with_reducible refine LeO.bind ?_ (fun _ => ?_))
   | exact ih0 _ _ _ _ _
   | exact ih1 _ _ _ _ _ _ _
   | exact ih2 _ _ _ _ _ _ _ _ _ _ _
   | exact ih3 _ _ _ _ _ _ _ _ _ _
   | exact impl_NameOK.mono _ _
   | exact LeO.none _
   | refine LeO.ite ?_ ?_
   | refine LeO.bind ?_ (fun _ => ?_)
  ·intro y0 y1 y2 y3 y4 y5 y6
   unfold impl_ShopOK.l0
   repeat' first
   | (with_reducible exact ih0 _ _ _ _ _)
   | (with_reducible exact ih1 _ _ _ _ _ _ _)
   | (with_reducible exact ih2 _ _ _ _ _ _ _ _ _ _ _)
   | (with_reducible exact ih3 _ _ _ _ _ _ _ _ _ _)
   | (with_reducible exact impl_NameOK.mono _ _)
   | (with_reducible exact LeO.refl _)
   | (with_reducible exact LeO.none _)
   | (with_reducible refine LeO.ite ?_ ?_)
   | (with_reducible refine LeO.bind ?_ (fun _ => ?_))
   | exact ih0 _ _ _ _ _
   | exact ih1 _ _ _ _ _ _ _
   | exact ih2 _ _ _ _ _ _ _ _ _ _ _
   | exact ih3 _ _ _ _ _ _ _ _ _ _
   | exact impl_NameOK.mono _ _
   | exact LeO.none _
   | refine LeO.ite ?_ ?_
   | refine LeO.bind ?_ (fun _ => ?_)
  ·intro y0 y1 y2 y3 y4 y5 y6 y7 y8 y9 y10
   unfold impl_ShopOK.j2
   repeat' first
   | (with_reducible exact ih0 _ _ _ _ _)
   | (with_reducible exact ih1 _ _ _ _ _ _ _)
   | (with_reducible exact ih2 _ _ _ _ _ _ _ _ _ _ _)
   | (with_reducible exact ih3 _ _ _ _ _ _ _ _ _ _)
   | (with_reducible exact impl_NameOK.mono _ _)
   | (with_reducible exact LeO.refl _)
   | (with_reducible exact LeO.none _)
   | (with_reducible refine LeO.ite ?_ ?_)
   | (with_reducible refine LeO.bind ?_ (fun _ => ?_))
   | exact ih0 _ _ _ _ _
   | exact ih1 _ _ _ _ _ _ _
   | exact ih2 _ _ _ _ _ _ _ _ _ _ _
   | exact ih3 _ _ _ _ _ _ _ _ _ _
   | exact impl_NameOK.mono _ _
   | exact LeO.none _
   | refine LeO.ite ?_ ?_
   | refine LeO.bind ?_ (fun _ => ?_)
  ·intro y0 y1 y2 y3 y4 y5 y6 y7 y8 y9
   unfold impl_ShopOK.l1
   repeat' first
   | (with_reducible exact ih0 _ _ _ _ _)
   | (with_reducible exact ih1 _ _ _ _ _ _ _)
   | (with_reducible exact ih2 _ _ _ _ _ _ _ _ _ _ _)
   | (with_reducible exact ih3 _ _ _ _ _ _ _ _ _ _)
   | (with_reducible exact impl_NameOK.mono _ _)
   | (with_reducible exact LeO.refl _)
   | (with_reducible exact LeO.none _)
   | (with_reducible refine LeO.ite ?_ ?_)
   | (with_reducible refine LeO.bind ?_ (fun _ => ?_))
   | exact ih0 _ _ _ _ _
   | exact ih1 _ _ _ _ _ _ _
   | exact ih2 _ _ _ _ _ _ _ _ _ _ _
   | exact ih3 _ _ _ _ _ _ _ _ _ _
   | exact impl_NameOK.mono _ _
   | exact LeO.none _
   | refine LeO.ite ?_ ?_
   | refine LeO.bind ?_ (fun _ => ?_)
theorem impl_ShopOK.mono : ∀ a0 a1 a2 a3 k, LeO (impl_ShopOK.f k a0 a1 a2 a3) (impl_ShopOK.f (k + 1) a0 a1 a2 a3) := by
 intro a0 a1 a2 a3 k
 obtain ⟨ih0, ih1, ih2, ih3⟩ := impl_ShopOK.mono_l k
 unfold impl_ShopOK.f
 repeat' first
   | (with_reducible exact ih0 _ _ _ _ _)
   | (with_reducible exact ih1 _ _ _ _ _ _ _)
   | (with_reducible exact ih2 _ _ _ _ _ _ _ _ _ _ _)
   | (with_reducible exact ih3 _ _ _ _ _ _ _ _ _ _)
   | (with_reducible exact impl_NameOK.mono _ _)
   | (with_reducible exact LeO.refl _)
   | (with_reducible exact LeO.none _)
   | (with_reducible refine LeO.ite ?_ ?_)
   | (with_reducible refine LeO.bind ?_ (fun _ => ?_))
   | exact ih0 _ _ _ _ _
   | exact ih1 _ _ _ _ _ _ _
   | exact ih2 _ _ _ _ _ _ _ _ _ _ _
   | exact ih3 _ _ _ _ _ _ _ _ _ _
   | exact impl_NameOK.mono _ _
   | exact LeO.none _
   | refine LeO.ite ?_ ?_
   | refine LeO.bind ?_ (fun _ => ?_)
set_option maxHeartbeats 8000000 in
set_option maxRecDepth 100000 in
theorem impl_ShopOK.calls (k : Nat) (a0_0 : Int) (a0_1 : Int) (a0_2 : Int) (A1 : Option Addr) (c1 : Nat) (l1 : List (S68)) (r : Bool) (w : World) (hr1 : Kd.C k68 w A1 l1.length l1) (hc1 : l1.length ≤ c1) (h : impl_ShopOK.f k a0_0 a0_1 a0_2 l1 = some r) (hT0 : LaidT w) :
  Calls Tryd.prog 17 #[.agg #[.int .i64 a0_0, .int .i64 a0_1, .int .i64 a0_2], .slice A1 l1.length c1] w fun e w' => e = .returned (.bool r) ∧ Below w.heap.size w w' := by
 have hu38 := Tryd.underlying38
 have hu68 := Tryd.underlying68
 have hu71 := Tryd.underlying71
 have HR1 := Aside0.mk hr1
 have HC1 := Aside0.mk hc1
 clear hr1 hc1
 have HB := Aside0.mk (Below.refl w.heap.size w)
 have HT0 := Aside0.mk hT0
 clear hT0
 have H : (if (l1.length : Int) > 20 then (impl_ShopOK.j0 k l1 true a0_0 a0_1 a0_2) else (if a0_0 < 1 then (impl_ShopOK.j0 k l1 true a0_0 a0_1 a0_2) else (if a0_0 > 6 then (impl_ShopOK.j0 k l1 true a0_0 a0_1 a0_2) else (if a0_1 < 0 then (impl_ShopOK.j0 k l1 true a0_0 a0_1 a0_2) else (if a0_1 > 1000 then (impl_ShopOK.j0 k l1 true a0_0 a0_1 a0_2) else (if a0_2 < 1 then (impl_ShopOK.j0 k l1 true a0_0 a0_1 a0_2) else (impl_ShopOK.j0 k l1 (decide (a0_2 > 1000)) a0_0 a0_1 a0_2))))))) = some r := h
 clear h
 have HC3 := Aside0.mk H
 clear H
 go_enter Tryd.func17, Tryd.ntmps17
 go_upto_region 1 with (first | ((with_reducible refine gate_dst (N := 2) rfl ?_); (try (refine gate_guard (by rfl) ?_; dsimp only)); refine box_event ?hg (N := 2) ?hd (cs := #[.int .i64 a0_0, .int .i64 a0_1, .int .i64 a0_2]) (t := 38) ?hr ?_; (case hd => rfl); (case hg => rfl); (case hr => first | (go_simp; done) | (go_simp; rfl)); intro gb189 hg w4 hbox hb; have n0_ := Aside0.mk (below_step (by repeat (first | (with_reducible first | exact HB.out | apply below_alloc | apply pw_below_drewN | apply below_drew1) | exact HB.out)) hb); have n1_ := Aside0.mk (hbox); have n2_ := Aside0.mk ((by rw [hg]; exact (below_size (by repeat (first | (with_reducible first | exact HB.out | apply below_alloc | apply pw_below_drewN | apply below_drew1) | exact HB.out))) : w.heap.size ≤ gb189)); have n3_ := Aside0.mk ((by rw [hg]; exact (below_size (by repeat (first | (with_reducible first | exact HB.out | apply below_alloc | apply pw_below_drewN | apply below_drew1) | exact HB.out))) : w.heap.size ≤ gb189)); clear HB; have HB := n0_; have BK189 := n1_; have GW189 := n2_; have GE189 := n3_; clear n0_ n1_ n2_ n3_; clear hb hbox hg))
 (try simp only [Act.put, List.setIfInBounds_toArray, List.set_cons_zero, List.set_cons_succ])
 go_cut [42] (fun v42 wc => ∃ (kq : Nat) (x42_2 : Bool), v42 = .bool x42_2 ∧ Aside0 (impl_ShopOK.j0 kq l1 x42_2 a0_0 a0_1 a0_2 = some r) ∧ Aside0 (kq ≤ k) ∧ Aside0 (wc.heap[gb189]? = some (.cells #[.int .i64 a0_0, .int .i64 a0_1, .int .i64 a0_2] 38 (0, 0))) ∧ Aside0 (Below w.heap.size w wc))
 case first =>
  have H := HC3.out
  clear HC3
  by_cases c5 : (l1.length : Int) > 20
  ·rw [if_pos c5] at H
   have c5b0 : decide (20 < (l1.length : Int)) = true := decide_eq_true c5
   have c5b1 : decide (20 < l1.length) = true := decide_eq_true (by omega)
   clear c5
   (first | rw [c5b0] | (simp only [i64_w, i32_w]; rw [c5b0]) | skip)
   have H' := Aside0.mk H
   clear H
   go_wp2
   go_meet
   case rel => exact ⟨_, (true), (by first | rfl | (simp; done) | (simp [*]; done)), H', ⟨by first | omega | exact Nat.le_refl _⟩, ⟨by (with_reducible repeat (first | refine blk_drewN ?_ _ | refine blk_drew ?_ | refine blk_alloc ?_ _)); exact BK189.out⟩, ⟨by repeat (first | (with_reducible first | exact HB.out | apply below_alloc | apply pw_below_drewN | apply below_drew1 | refine below_set ?_ GE189.out) | exact HB.out)⟩⟩
  ·rw [if_neg c5] at H
   have c5b0 : decide (20 < (l1.length : Int)) = false := decide_eq_false c5
   have c5b1 : decide (20 < l1.length) = false := decide_eq_false (by omega)
   clear c5
   (first | rw [c5b0] | (simp only [i64_w, i32_w]; rw [c5b0]) | skip)
   by_cases c6 : a0_0 < 1
   ·rw [if_pos c6] at H
    have c6b0 : decide (a0_0 < 1) = true := decide_eq_true c6
    clear c6
    have H' := Aside0.mk H
    clear H
    have hcz7_0 : w4.cell? ⟨gb189, 0, none⟩ = some (.int .i64 a0_0) := (blk_cell BK189.out 0).trans rfl
    have hcz7_1 : w4.cell? ⟨gb189, 1, none⟩ = some (.int .i64 a0_1) := (blk_cell BK189.out 1).trans rfl
    have hcz7_2 : w4.cell? ⟨gb189, 2, none⟩ = some (.int .i64 a0_2) := (blk_cell BK189.out 2).trans rfl
    have hfz7_0 := blk_frozen BK189.out 0
    have hfz7_1 := blk_frozen BK189.out 1
    have hfz7_2 := blk_frozen BK189.out 2
    go_wp2
    go_meet
    case rel => exact ⟨_, (true), (by first | rfl | (simp; done) | (simp [*]; done)), H', ⟨by first | omega | exact Nat.le_refl _⟩, ⟨by (with_reducible repeat (first | refine blk_drewN ?_ _ | refine blk_drew ?_ | refine blk_alloc ?_ _)); exact BK189.out⟩, ⟨by repeat (first | (with_reducible first | exact HB.out | apply below_alloc | apply pw_below_drewN | apply below_drew1 | refine below_set ?_ GE189.out) | exact HB.out)⟩⟩
   ·rw [if_neg c6] at H
    have c6b0 : decide (a0_0 < 1) = false := decide_eq_false c6
    clear c6
    by_cases c8 : a0_0 > 6
    ·rw [if_pos c8] at H
     have c8b0 : decide (6 < a0_0) = true := decide_eq_true c8
     clear c8
     have H' := Aside0.mk H
     clear H
     have hcz9_0 : w4.cell? ⟨gb189, 0, none⟩ = some (.int .i64 a0_0) := (blk_cell BK189.out 0).trans rfl
     have hcz9_1 : w4.cell? ⟨gb189, 1, none⟩ = some (.int .i64 a0_1) := (blk_cell BK189.out 1).trans rfl
     have hcz9_2 : w4.cell? ⟨gb189, 2, none⟩ = some (.int .i64 a0_2) := (blk_cell BK189.out 2).trans rfl
     have hfz9_0 := blk_frozen BK189.out 0
     have hfz9_1 := blk_frozen BK189.out 1
     have hfz9_2 := blk_frozen BK189.out 2
     go_wp2
     go_meet
     case rel => exact ⟨_, (true), (by first | rfl | (simp; done) | (simp [*]; done)), H', ⟨by first | omega | exact Nat.le_refl _⟩, ⟨by (with_reducible repeat (first | refine blk_drewN ?_ _ | refine blk_drew ?_ | refine blk_alloc ?_ _)); exact BK189.out⟩, ⟨by repeat (first | (with_reducible first | exact HB.out | apply below_alloc | apply pw_below_drewN | apply below_drew1 | refine below_set ?_ GE189.out) | exact HB.out)⟩⟩
    ·rw [if_neg c8] at H
     have c8b0 : decide (6 < a0_0) = false := decide_eq_false c8
     clear c8
     by_cases c10 : a0_1 < 0
     ·rw [if_pos c10] at H
      have c10b0 : decide (a0_1 < 0) = true := decide_eq_true c10
      clear c10
      have H' := Aside0.mk H
      clear H
      have hcz11_0 : w4.cell? ⟨gb189, 0, none⟩ = some (.int .i64 a0_0) := (blk_cell BK189.out 0).trans rfl
      have hcz11_1 : w4.cell? ⟨gb189, 1, none⟩ = some (.int .i64 a0_1) := (blk_cell BK189.out 1).trans rfl
      have hcz11_2 : w4.cell? ⟨gb189, 2, none⟩ = some (.int .i64 a0_2) := (blk_cell BK189.out 2).trans rfl
      have hfz11_0 := blk_frozen BK189.out 0
      have hfz11_1 := blk_frozen BK189.out 1
      have hfz11_2 := blk_frozen BK189.out 2
      go_wp2
      go_meet
      case rel => exact ⟨_, (true), (by first | rfl | (simp; done) | (simp [*]; done)), H', ⟨by first | omega | exact Nat.le_refl _⟩, ⟨by (with_reducible repeat (first | refine blk_drewN ?_ _ | refine blk_drew ?_ | refine blk_alloc ?_ _)); exact BK189.out⟩, ⟨by repeat (first | (with_reducible first | exact HB.out | apply below_alloc | apply pw_below_drewN | apply below_drew1 | refine below_set ?_ GE189.out) | exact HB.out)⟩⟩
     ·rw [if_neg c10] at H
      have c10b0 : decide (a0_1 < 0) = false := decide_eq_false c10
      clear c10
      by_cases c12 : a0_1 > 1000
      ·rw [if_pos c12] at H
       have c12b0 : decide (1000 < a0_1) = true := decide_eq_true c12
       clear c12
       have H' := Aside0.mk H
       clear H
       have hcz13_0 : w4.cell? ⟨gb189, 0, none⟩ = some (.int .i64 a0_0) := (blk_cell BK189.out 0).trans rfl
       have hcz13_1 : w4.cell? ⟨gb189, 1, none⟩ = some (.int .i64 a0_1) := (blk_cell BK189.out 1).trans rfl
       have hcz13_2 : w4.cell? ⟨gb189, 2, none⟩ = some (.int .i64 a0_2) := (blk_cell BK189.out 2).trans rfl
       have hfz13_0 := blk_frozen BK189.out 0
       have hfz13_1 := blk_frozen BK189.out 1
       have hfz13_2 := blk_frozen BK189.out 2
       go_wp2
       go_meet
       case rel => exact ⟨_, (true), (by first | rfl | (simp; done) | (simp [*]; done)), H', ⟨by first | omega | exact Nat.le_refl _⟩, ⟨by (with_reducible repeat (first | refine blk_drewN ?_ _ | refine blk_drew ?_ | refine blk_alloc ?_ _)); exact BK189.out⟩, ⟨by repeat (first | (with_reducible first | exact HB.out | apply below_alloc | apply pw_below_drewN | apply below_drew1 | refine below_set ?_ GE189.out) | exact HB.out)⟩⟩
      ·rw [if_neg c12] at H
       have c12b0 : decide (1000 < a0_1) = false := decide_eq_false c12
       clear c12
       by_cases c14 : a0_2 < 1
       ·rw [if_pos c14] at H
        have c14b0 : decide (a0_2 < 1) = true := decide_eq_true c14
        clear c14
        have H' := Aside0.mk H
        clear H
        have hcz15_0 : w4.cell? ⟨gb189, 0, none⟩ = some (.int .i64 a0_0) := (blk_cell BK189.out 0).trans rfl
        have hcz15_1 : w4.cell? ⟨gb189, 1, none⟩ = some (.int .i64 a0_1) := (blk_cell BK189.out 1).trans rfl
        have hcz15_2 : w4.cell? ⟨gb189, 2, none⟩ = some (.int .i64 a0_2) := (blk_cell BK189.out 2).trans rfl
        have hfz15_0 := blk_frozen BK189.out 0
        have hfz15_1 := blk_frozen BK189.out 1
        have hfz15_2 := blk_frozen BK189.out 2
        go_wp2
        go_meet
        case rel => exact ⟨_, (true), (by first | rfl | (simp; done) | (simp [*]; done)), H', ⟨by first | omega | exact Nat.le_refl _⟩, ⟨by (with_reducible repeat (first | refine blk_drewN ?_ _ | refine blk_drew ?_ | refine blk_alloc ?_ _)); exact BK189.out⟩, ⟨by repeat (first | (with_reducible first | exact HB.out | apply below_alloc | apply pw_below_drewN | apply below_drew1 | refine below_set ?_ GE189.out) | exact HB.out)⟩⟩
       ·rw [if_neg c14] at H
        have c14b0 : decide (a0_2 < 1) = false := decide_eq_false c14
        clear c14
        have H' := Aside0.mk H
        clear H
        have hcz16_0 : w4.cell? ⟨gb189, 0, none⟩ = some (.int .i64 a0_0) := (blk_cell BK189.out 0).trans rfl
        have hcz16_1 : w4.cell? ⟨gb189, 1, none⟩ = some (.int .i64 a0_1) := (blk_cell BK189.out 1).trans rfl
        have hcz16_2 : w4.cell? ⟨gb189, 2, none⟩ = some (.int .i64 a0_2) := (blk_cell BK189.out 2).trans rfl
        have hfz16_0 := blk_frozen BK189.out 0
        have hfz16_1 := blk_frozen BK189.out 1
        have hfz16_2 := blk_frozen BK189.out 2
        go_wp2
        go_meet
        case rel => exact ⟨_, (decide (a0_2 > 1000)), (by first | rfl | (simp; done) | (simp [*]; done)), H', ⟨by first | omega | exact Nat.le_refl _⟩, ⟨by (with_reducible repeat (first | refine blk_drewN ?_ _ | refine blk_drew ?_ | refine blk_alloc ?_ _)); exact BK189.out⟩, ⟨by repeat (first | (with_reducible first | exact HB.out | apply below_alloc | apply pw_below_drewN | apply below_drew1 | refine below_set ?_ GE189.out) | exact HB.out)⟩⟩
 case rest =>
  clear HC3
  try clear c1
  try clear p2
  try clear c5
  try clear c5b0
  try clear c5b1
  try clear c6
  try clear c6b0
  try clear c8
  try clear c8b0
  try clear c10
  try clear c10b0
  try clear c12
  try clear c12b0
  try clear c14
  try clear c14b0
  try clear hcz11_0
  try clear hcz11_1
  try clear hcz11_2
  try clear hcz13_0
  try clear hcz13_1
  try clear hcz13_2
  try clear hcz15_0
  try clear hcz15_1
  try clear hcz15_2
  try clear hcz16_0
  try clear hcz16_1
  try clear hcz16_2
  try clear hcz7_0
  try clear hcz7_1
  try clear hcz7_2
  try clear hcz9_0
  try clear hcz9_1
  try clear hcz9_2
  try clear hfz11_0
  try clear hfz11_1
  try clear hfz11_2
  try clear hfz13_0
  try clear hfz13_1
  try clear hfz13_2
  try clear hfz15_0
  try clear hfz15_1
  try clear hfz15_2
  try clear hfz16_0
  try clear hfz16_1
  try clear hfz16_2
  try clear hfz7_0
  try clear hfz7_1
  try clear hfz7_2
  try clear hfz9_0
  try clear hfz9_1
  try clear hfz9_2
  obtain ⟨kq, x42_2, rfl, HA, HJ2, BK189, HB⟩ := hcut
  cases kq with
  | zero => exact absurd HA.out (by simp [impl_ShopOK.j0])
  | succ kj2 =>
   have H := HA.out
   clear HA
   simp only [impl_ShopOK.j0] at H
   by_cases c17 : x42_2 = true
   ·subst c17
    have H1 : (some false) = some r := by rw [if_pos rfl] at H; exact H
    clear H
    have H := H1
    clear H1
    obtain rfl := Option.some.inj H
    go_wp2
    go_ret
    exact ⟨by first | rfl | (simp [errW_none, errW_some] <;> rfl) | (simp [*, errW_none, errW_some] <;> rfl), by repeat (first | (with_reducible first | exact HB.out | apply below_alloc | apply pw_below_drewN | apply below_drew1 | refine below_set ?_ GE189.out) | exact HB.out)⟩
   ·replace c17 := Bool.eq_false_iff.mpr c17
    subst c17
    have H1 : (impl_ShopOK.l0 kj2 [] l1 (l1.length : Int) 0 a0_0 a0_1 a0_2) = some r := by rw [if_neg (show ¬ (false = true) by decide)] at H; exact H
    clear H
    have H := H1
    clear H1
    have H' := Aside0.mk H
    clear H
    go_wp2_with (first | ((with_reducible refine gate_ (Op.makeMap 73 none) rfl ?_); refine make_event rfl rfl ?_; intro BM hg wm hbox hb; have n0_ := Aside0.mk (below_step (by repeat (first | (with_reducible first | exact HB.out | apply below_alloc | apply pw_below_drewN | apply below_drew1 | refine below_set ?_ GE189.out | refine below_set ?_ GE191.out | refine below_set ?_ GE194.out) | exact HB.out)) hb); have n2_ := Aside0.mk ((by rw [hg]; exact (below_size (by repeat (first | (with_reducible first | exact HB.out | apply below_alloc | apply pw_below_drewN | apply below_drew1 | refine below_set ?_ GE189.out | refine below_set ?_ GE191.out | refine below_set ?_ GE194.out) | exact HB.out))) : w.heap.size ≤ BM)); have n3_ := Aside0.mk (seen_made (P := Tryd.prog) (k := 9) (e := 4) hbox); (try (have m_ := Aside0.mk (show BM ≠ gb189 from Nat.ne_of_gt (by rw [hg]; exact blk_lt (g := gb189) (o := _) (by (with_reducible repeat (first | refine blk_drewN ?_ _ | refine blk_drew ?_ | refine blk_alloc ?_ _ | refine blk_put (g := gb189) ?_ _ _ rfl | refine obj_far ?_ (NB189_191.out) _ | refine obj_far ?_ (NB189_194.out) _)); exact BK189.out))); have b_ := Aside0.mk (blk_below (g := gb189) (o := _) (by (with_reducible repeat (first | refine blk_drewN ?_ _ | refine blk_drew ?_ | refine blk_alloc ?_ _ | refine blk_put (g := gb189) ?_ _ _ rfl | refine obj_far ?_ (NB189_191.out) _ | refine obj_far ?_ (NB189_194.out) _)); exact BK189.out) hb); clear BK189; have BK189 := b_; have GNE189 := m_; clear b_ m_)); (try (have m_ := Aside0.mk (show BM ≠ gb191 from Nat.ne_of_gt (by rw [hg]; exact blk_lt (g := gb191) (o := _) (by (with_reducible repeat (first | refine blk_drewN ?_ _ | refine blk_drew ?_ | refine blk_alloc ?_ _ | refine blk_put (g := gb191) ?_ _ _ rfl | refine obj_far ?_ (NB191_189.out) _ | refine obj_far ?_ (NB191_194.out) _)); exact BK191.out))); have b_ := Aside0.mk (blk_below (g := gb191) (o := _) (by (with_reducible repeat (first | refine blk_drewN ?_ _ | refine blk_drew ?_ | refine blk_alloc ?_ _ | refine blk_put (g := gb191) ?_ _ _ rfl | refine obj_far ?_ (NB191_189.out) _ | refine obj_far ?_ (NB191_194.out) _)); exact BK191.out) hb); clear BK191; have BK191 := b_; have GNE191 := m_; clear b_ m_)); (try (have m_ := Aside0.mk (show BM ≠ gb194 from Nat.ne_of_gt (by rw [hg]; exact blk_lt (g := gb194) (o := _) (by (with_reducible repeat (first | refine blk_drewN ?_ _ | refine blk_drew ?_ | refine blk_alloc ?_ _ | refine blk_put (g := gb194) ?_ _ _ rfl | refine obj_far ?_ (NB194_189.out) _ | refine obj_far ?_ (NB194_191.out) _)); exact BK194.out))); have b_ := Aside0.mk (blk_below (g := gb194) (o := _) (by (with_reducible repeat (first | refine blk_drewN ?_ _ | refine blk_drew ?_ | refine blk_alloc ?_ _ | refine blk_put (g := gb194) ?_ _ _ rfl | refine obj_far ?_ (NB194_189.out) _ | refine obj_far ?_ (NB194_191.out) _)); exact BK194.out) hb); clear BK194; have BK194 := b_; have GNE194 := m_; clear b_ m_)); clear HB; have HB := n0_; have HBM := n2_; have HMN := n3_; clear n0_ n2_ n3_; clear hb hbox hg))
    go_loopg [46] kj2 (fun kq v46 w' => ∃ (x5_2 : List ByteArray) (x46_2 : Int), Aside0 (SeenAt Tryd.prog 9 4 BM x5_2 w') ∧ v46 = .int .i64 x46_2 ∧ Aside0 (impl_ShopOK.l0 kq x5_2 l1 (l1.length : Int) x46_2 a0_0 a0_1 a0_2 = some r) ∧ Aside0 (kq ≤ kj2) ∧ Aside0 (w'.heap[gb189]? = some (.cells #[.int .i64 a0_0, .int .i64 a0_1, .int .i64 a0_2] 38 (0, 0))) ∧ Aside0 (Below w.heap.size w w'))
    case atStart => exact ⟨[], (0), HMN, (by first | rfl | (simp; done) | (simp [*]; done)), H', ⟨Nat.le_refl _⟩, ⟨by (with_reducible repeat (first | refine blk_drewN ?_ _ | refine blk_drew ?_ | refine blk_alloc ?_ _)); exact BK189.out⟩, ⟨by repeat (first | (with_reducible first | exact HB.out | apply below_alloc | apply pw_below_drewN | apply below_drew1 | refine below_set ?_ GE189.out) | exact HB.out)⟩⟩
    case round =>
     clear H'
     try clear c1
     try clear p2
     try clear c5
     try clear c5b0
     try clear c5b1
     try clear c6
     try clear c6b0
     try clear c8
     try clear c8b0
     try clear c10
     try clear c10b0
     try clear c12
     try clear c12b0
     try clear c14
     try clear c14b0
     try clear c17
     try clear hcz11_0
     try clear hcz11_1
     try clear hcz11_2
     try clear hcz13_0
     try clear hcz13_1
     try clear hcz13_2
     try clear hcz15_0
     try clear hcz15_1
     try clear hcz15_2
     try clear hcz16_0
     try clear hcz16_1
     try clear hcz16_2
     try clear hcz7_0
     try clear hcz7_1
     try clear hcz7_2
     try clear hcz9_0
     try clear hcz9_1
     try clear hcz9_2
     try clear hfz11_0
     try clear hfz11_1
     try clear hfz11_2
     try clear hfz13_0
     try clear hfz13_1
     try clear hfz13_2
     try clear hfz15_0
     try clear hfz15_1
     try clear hfz15_2
     try clear hfz16_0
     try clear hfz16_1
     try clear hfz16_2
     try clear hfz7_0
     try clear hfz7_1
     try clear hfz7_2
     try clear hfz9_0
     try clear hfz9_1
     try clear hfz9_2
     try clear p2
     obtain ⟨x5_2, x46_2, HM, rfl, HA, HK2, BK189, HB⟩ := hrel
     obtain ⟨om, hom, hos⟩ := HM.out
     have BKM := Aside0.mk hom
     have HS := Aside0.mk hos
     clear hom hos HM
     try clear HMN
     cases gk with
     | zero => exact absurd HA.out (by simp [impl_ShopOK.l0])
     | succ k2 =>
      have H := HA.out
      clear HA
      simp only [impl_ShopOK.l0] at H
      by_cases c18 : x46_2 < (l1.length : Int)
      ·rw [if_pos c18] at H
       have c18b0 : decide (x46_2 < (l1.length : Int)) = true := decide_eq_true c18
       clear c18
       by_cases c19 : 0 ≤ x46_2
       ·rw [if_pos c19] at H
        have c19b0 : decide (0 ≤ x46_2) = true := decide_eq_true c19
        clear c19
        by_cases c20 : x46_2 < (l1.length : Int)
        ·rw [if_pos c20] at H
         have c20b0 : decide (x46_2 < (l1.length : Int)) = true := decide_eq_true c20
         clear c20
         have HC21 := Aside0.mk H
         clear H
         have p190 : 0 ≤ (x46_2 : Int) := of_decide_eq_true (by first | (with_reducible assumption) | assumption)
         have q190 : x46_2 < (l1.length : Int) := of_decide_eq_true (by first | (with_reducible assumption) | assumption)
         obtain ⟨ad190, A190_2, c190_2, e190, hx190_0, hx190_1, hx190_2, hl190_2, hi190_2⟩ := at_T68 HR1.out x46_2 p190 q190
         cases e190
         replace hx190_0 := (HB.out.cell (World.block_lt_of_cell? w _ hx190_0)).trans hx190_0
         replace hx190_1 := (HB.out.cell (World.block_lt_of_cell? w _ hx190_1)).trans hx190_1
         replace hx190_2 := (HB.out.cell (World.block_lt_of_cell? w _ hx190_2)).trans hx190_2
         have HR190_2 := Aside0.mk hi190_2
         have HC190_2 := Aside0.mk hl190_2
         clear hi190_2 hl190_2
         replace p190 := eq_true p190
         replace q190 := eq_true q190
         go_upto_region 7 with (first | ((with_reducible refine gate_dst (N := 7) rfl ?_); (try (refine gate_guard (by rfl) ?_; dsimp only)); refine box_event ?hg (N := 7) ?hd (cs := #[.string (⟨#[]⟩ : ByteArray), .int .i64 0, .slice none 0 0]) (t := 68) ?hr ?_; (case hd => rfl); (case hg => rfl); (case hr => first | (go_simp; done) | (go_simp; rfl)); intro gb191 hg w22 hbox hb; have n0_ := Aside0.mk (blk_below (g := gb189) (o := .cells #[.int .i64 a0_0, .int .i64 a0_1, .int .i64 a0_2] 38 (0, 0)) (by (with_reducible repeat (first | refine blk_drewN ?_ _ | refine blk_drew ?_ | refine blk_alloc ?_ _)); exact BK189.out) hb); have n1_ := Aside0.mk (below_step (by repeat (first | (with_reducible first | exact HB.out | apply below_alloc | apply pw_below_drewN | apply below_drew1 | refine below_set ?_ GE189.out) | exact HB.out)) hb); have n2_ := Aside0.mk (hbox); have n3_ := Aside0.mk ((by rw [hg]; exact (below_size (by repeat (first | (with_reducible first | exact HB.out | apply below_alloc | apply pw_below_drewN | apply below_drew1 | refine below_set ?_ GE189.out) | exact HB.out))) : w.heap.size ≤ gb191)); have n4_ := Aside0.mk ((by rw [hg]; exact (below_size (by repeat (first | (with_reducible first | exact HB.out | apply below_alloc | apply pw_below_drewN | apply below_drew1 | refine below_set ?_ GE189.out) | exact HB.out))) : w.heap.size ≤ gb191)); have n5_ := Aside0.mk ((by rw [hg]; exact Nat.ne_of_lt (blk_lt (g := gb189) (o := .cells #[.int .i64 a0_0, .int .i64 a0_1, .int .i64 a0_2] 38 (0, 0)) (by (with_reducible repeat (first | refine blk_drewN ?_ _ | refine blk_drew ?_ | refine blk_alloc ?_ _)); exact BK189.out)) : gb189 ≠ gb191)); have n6_ := Aside0.mk ((by rw [hg]; exact Nat.ne_of_gt (blk_lt (g := gb189) (o := .cells #[.int .i64 a0_0, .int .i64 a0_1, .int .i64 a0_2] 38 (0, 0)) (by (with_reducible repeat (first | refine blk_drewN ?_ _ | refine blk_drew ?_ | refine blk_alloc ?_ _)); exact BK189.out)) : gb191 ≠ gb189)); clear BK189; clear HB; have BK189 := n0_; have HB := n1_; have BK191 := n2_; have GW191 := n3_; have GE191 := n4_; have NB189_191 := n5_; have NB191_189 := n6_; clear n0_ n1_ n2_ n3_ n4_ n5_ n6_; have m0_ := Aside0.mk (blk_below (g := BM) (o := om) (by (with_reducible repeat (first | refine blk_drewN ?_ _ | refine blk_drew ?_ | refine blk_alloc ?_ _ | refine obj_far ?_ GNE189.out _ | refine obj_far ?_ GNE191.out _ | refine obj_far ?_ GNE194.out _)); exact BKM.out) hb); have m1_ := Aside0.mk (show BM ≠ gb191 from Nat.ne_of_lt (by rw [hg]; exact blk_lt (o := om) (by (with_reducible repeat (first | refine blk_drewN ?_ _ | refine blk_drew ?_ | refine blk_alloc ?_ _ | refine obj_far ?_ GNE189.out _ | refine obj_far ?_ GNE191.out _ | refine obj_far ?_ GNE194.out _)); exact BKM.out))); clear BKM; have BKM := m0_; have GNE191 := m1_; clear m0_ m1_; clear hb hbox hg; have hnb23 := NB191_189.out; have hnc23 := NB189_191.out; have hcz24_0 : w22.cell? ⟨gb191, 0, none⟩ = some (.string (⟨#[]⟩ : ByteArray)) := (blk_cell BK191.out 0).trans rfl; have hcz24_1 : w22.cell? ⟨gb191, 1, none⟩ = some (.int .i64 0) := (blk_cell BK191.out 1).trans rfl; have hcz24_2 : w22.cell? ⟨gb191, 2, none⟩ = some (.slice none 0 0) := (blk_cell BK191.out 2).trans rfl; have hfz24_0 := blk_frozen BK191.out 0; have hfz24_1 := blk_frozen BK191.out 1; have hfz24_2 := blk_frozen BK191.out 2))
         (try simp only [Act.put, List.setIfInBounds_toArray, List.set_cons_zero, List.set_cons_succ])
         go_cut [81] (fun v81 wc => ∃ (kq : Nat) (x81_20 : Bool), v81 = .bool x81_20 ∧ Aside0 (impl_ShopOK.j2 kq x5_2 l1 (l1.length : Int) x46_2 x81_20 a0_0 a0_1 a0_2 ((rd_T68 l1 x46_2).f0) ((rd_T68 l1 x46_2).f1) ((rd_T68 l1 x46_2).f2) = some r) ∧ Aside0 (kq ≤ k2) ∧ Aside0 (wc.heap[gb189]? = some (.cells #[.int .i64 a0_0, .int .i64 a0_1, .int .i64 a0_2] 38 (0, 0))) ∧ Aside0 (wc.heap[gb191]? = some (.cells #[.string ((rd_T68 l1 x46_2).f0), .int .i64 ((rd_T68 l1 x46_2).f1), (.slice A190_2 ((rd_T68 l1 x46_2).f2).length c190_2)] 68 (0, 0))) ∧ Aside0 (SeenAt Tryd.prog 9 4 BM x5_2 wc) ∧ Aside0 (Below w.heap.size w wc))
         case first =>
          have H := HC21.out
          clear HC21
          replace H := Option.bind_eq_some_iff.mp H
          obtain ⟨t192, A250, H⟩ := H
          replace H : (if t192 = true then (if ((rd_T68 l1 x46_2).f0).size ≤ 40 then (if x5_2.length < 1000 then (if inB x5_2 ((rd_T68 l1 x46_2).f0) = true then (impl_ShopOK.j2 k2 x5_2 l1 (l1.length : Int) x46_2 true a0_0 a0_1 a0_2 ((rd_T68 l1 x46_2).f0) ((rd_T68 l1 x46_2).f1) ((rd_T68 l1 x46_2).f2)) else (if ((rd_T68 l1 x46_2).f1) < 0 then (impl_ShopOK.j2 k2 x5_2 l1 (l1.length : Int) x46_2 true a0_0 a0_1 a0_2 ((rd_T68 l1 x46_2).f0) ((rd_T68 l1 x46_2).f1) ((rd_T68 l1 x46_2).f2)) else (if ((rd_T68 l1 x46_2).f1) > 1000000 then (impl_ShopOK.j2 k2 x5_2 l1 (l1.length : Int) x46_2 true a0_0 a0_1 a0_2 ((rd_T68 l1 x46_2).f0) ((rd_T68 l1 x46_2).f1) ((rd_T68 l1 x46_2).f2)) else (if (((rd_T68 l1 x46_2).f2).length : Int) < 1 then (impl_ShopOK.j2 k2 x5_2 l1 (l1.length : Int) x46_2 true a0_0 a0_1 a0_2 ((rd_T68 l1 x46_2).f0) ((rd_T68 l1 x46_2).f1) ((rd_T68 l1 x46_2).f2)) else (impl_ShopOK.j2 k2 x5_2 l1 (l1.length : Int) x46_2 (decide ((((rd_T68 l1 x46_2).f2).length : Int) > 8)) a0_0 a0_1 a0_2 ((rd_T68 l1 x46_2).f0) ((rd_T68 l1 x46_2).f1) ((rd_T68 l1 x46_2).f2)))))) else (none)) else (none)) else (impl_ShopOK.j2 k2 x5_2 l1 (l1.length : Int) x46_2 true a0_0 a0_1 a0_2 ((rd_T68 l1 x46_2).f0) ((rd_T68 l1 x46_2).f1) ((rd_T68 l1 x46_2).f2))) = some r := H
          have A25 := Aside0.mk A250
          clear A250
          by_cases c26 : t192 = true
          ·subst c26
           have H1 : (if ((rd_T68 l1 x46_2).f0).size ≤ 40 then (if x5_2.length < 1000 then (if inB x5_2 ((rd_T68 l1 x46_2).f0) = true then (impl_ShopOK.j2 k2 x5_2 l1 (l1.length : Int) x46_2 true a0_0 a0_1 a0_2 ((rd_T68 l1 x46_2).f0) ((rd_T68 l1 x46_2).f1) ((rd_T68 l1 x46_2).f2)) else (if ((rd_T68 l1 x46_2).f1) < 0 then (impl_ShopOK.j2 k2 x5_2 l1 (l1.length : Int) x46_2 true a0_0 a0_1 a0_2 ((rd_T68 l1 x46_2).f0) ((rd_T68 l1 x46_2).f1) ((rd_T68 l1 x46_2).f2)) else (if ((rd_T68 l1 x46_2).f1) > 1000000 then (impl_ShopOK.j2 k2 x5_2 l1 (l1.length : Int) x46_2 true a0_0 a0_1 a0_2 ((rd_T68 l1 x46_2).f0) ((rd_T68 l1 x46_2).f1) ((rd_T68 l1 x46_2).f2)) else (if (((rd_T68 l1 x46_2).f2).length : Int) < 1 then (impl_ShopOK.j2 k2 x5_2 l1 (l1.length : Int) x46_2 true a0_0 a0_1 a0_2 ((rd_T68 l1 x46_2).f0) ((rd_T68 l1 x46_2).f1) ((rd_T68 l1 x46_2).f2)) else (impl_ShopOK.j2 k2 x5_2 l1 (l1.length : Int) x46_2 (decide ((((rd_T68 l1 x46_2).f2).length : Int) > 8)) a0_0 a0_1 a0_2 ((rd_T68 l1 x46_2).f0) ((rd_T68 l1 x46_2).f1) ((rd_T68 l1 x46_2).f2)))))) else (none)) else (none)) = some r := by rw [if_pos rfl] at H; exact H
           clear H
           have H := H1
           clear H1
           have cKs : ((rd_T68 l1 x46_2).f0).size ≤ 40 := Decidable.byContradiction fun hn_ => by rw [if_neg hn_] at H; exact absurd H (by simp)
           rw [if_pos cKs] at H
           have cKl : x5_2.length < 1000 := Decidable.byContradiction fun hn_ => by rw [if_neg hn_] at H; exact absurd H (by simp)
           rw [if_pos cKl] at H
           have KS := Aside0.mk cKs
           have KL := Aside0.mk cKl
           clear cKs cKl
           by_cases c27 : inB x5_2 ((rd_T68 l1 x46_2).f0) = true
           ·rw [if_pos c27] at H
            have c27b0 : inB x5_2 ((rd_T68 l1 x46_2).f0) = true := c27
            clear c27
            (first | rw [c27b0] | (simp only [i64_w, i32_w]; rw [c27b0]) | skip)
            have H' := Aside0.mk H
            clear H
            have hnb28 := NB191_189.out
            have hnc28 := NB189_191.out
            have hcz29_0 : w22.cell? ⟨gb191, 0, none⟩ = some (.string (⟨#[]⟩ : ByteArray)) := (blk_cell BK191.out 0).trans rfl
            have hcz29_1 : w22.cell? ⟨gb191, 1, none⟩ = some (.int .i64 0) := (blk_cell BK191.out 1).trans rfl
            have hcz29_2 : w22.cell? ⟨gb191, 2, none⟩ = some (.slice none 0 0) := (blk_cell BK191.out 2).trans rfl
            have hfz29_0 := blk_frozen BK191.out 0
            have hfz29_1 := blk_frozen BK191.out 1
            have hfz29_2 := blk_frozen BK191.out 2
            go_wp2_with (first | ((with_reducible refine gate_callee (f := 37) rfl ?_); refine goesL_ (some 52) rfl rfl Tryd.func37 (by kernel_rfl) rfl #[.string ((rd_T68 l1 x46_2).f0)] rfl (by (try simp only [List.map_toArray, List.map_cons, List.map_nil]); first | done | rfl | (simp only [List.length_drop, List.length_take]; rfl)) ?_; (with_reducible refine (impl_NameOK.calls k2 ((rd_T68 l1 x46_2).f0) true _ A25.out (laid_on HT0.out (by repeat (first | (with_reducible first | exact HB.out | apply below_alloc | apply pw_below_drewN | apply below_drew1 | refine below_set ?_ GE189.out | refine below_set ?_ GE191.out) | exact HB.out)))).mono ?_); rintro e w30 ⟨rfl, hb⟩; refine ⟨_, rfl, ?_⟩; have n0_ := Aside0.mk (blk_below (g := gb189) (o := .cells #[.int .i64 a0_0, .int .i64 a0_1, .int .i64 a0_2] 38 (0, 0)) (by (with_reducible repeat (first | refine blk_drewN ?_ _ | refine blk_drew ?_ | refine blk_alloc ?_ _)); refine blk_far ?_ NB189_191.out _; (with_reducible repeat (first | refine blk_drewN ?_ _ | refine blk_drew ?_ | refine blk_alloc ?_ _)); refine blk_far ?_ NB189_191.out _; (with_reducible repeat (first | refine blk_drewN ?_ _ | refine blk_drew ?_ | refine blk_alloc ?_ _)); refine blk_far ?_ NB189_191.out _; (with_reducible repeat (first | refine blk_drewN ?_ _ | refine blk_drew ?_ | refine blk_alloc ?_ _)); exact BK189.out) hb); have n1_ := Aside0.mk (blk_below (g := gb191) (o := .cells #[.string ((rd_T68 l1 x46_2).f0), .int .i64 ((rd_T68 l1 x46_2).f1), .slice A190_2 ((rd_T68 l1 x46_2).f2).length c190_2] 68 (0, 0)) (by (with_reducible repeat (first | refine blk_drewN ?_ _ | refine blk_drew ?_ | refine blk_alloc ?_ _)); refine blk_put (cs := #[.string ((rd_T68 l1 x46_2).f0), .int .i64 ((rd_T68 l1 x46_2).f1), .slice none 0 0]) ?_ 2 _ rfl; (with_reducible repeat (first | refine blk_drewN ?_ _ | refine blk_drew ?_ | refine blk_alloc ?_ _)); refine blk_put (cs := #[.string ((rd_T68 l1 x46_2).f0), .int .i64 0, .slice none 0 0]) ?_ 1 _ rfl; (with_reducible repeat (first | refine blk_drewN ?_ _ | refine blk_drew ?_ | refine blk_alloc ?_ _)); refine blk_put (cs := #[.string (⟨#[]⟩ : ByteArray), .int .i64 0, .slice none 0 0]) ?_ 0 _ rfl; (with_reducible repeat (first | refine blk_drewN ?_ _ | refine blk_drew ?_ | refine blk_alloc ?_ _)); exact BK191.out) hb); have n2_ := Aside0.mk (below_step (by repeat (first | (with_reducible first | exact HB.out | apply below_alloc | apply pw_below_drewN | apply below_drew1 | refine below_set ?_ GE189.out | refine below_set ?_ GE191.out) | exact HB.out)) hb); clear BK189; clear BK191; clear HB; have BK189 := n0_; have BK191 := n1_; have HB := n2_; clear n0_ n1_ n2_; have m0_ := Aside0.mk (blk_below (g := BM) (o := om) (by (with_reducible repeat (first | refine blk_drewN ?_ _ | refine blk_drew ?_ | refine blk_alloc ?_ _ | refine obj_far ?_ GNE189.out _ | refine obj_far ?_ GNE191.out _ | refine obj_far ?_ GNE194.out _)); exact BKM.out) hb); clear BKM; have BKM := m0_; clear m0_; (try clear hb); (try clear hb2); (try clear hk); (try clear hi); have hcz31_0 : w30.cell? ⟨gb191, 0, none⟩ = some (.string ((rd_T68 l1 x46_2).f0)) := (blk_cell BK191.out 0).trans rfl; have hcz31_1 : w30.cell? ⟨gb191, 1, none⟩ = some (.int .i64 ((rd_T68 l1 x46_2).f1)) := (blk_cell BK191.out 1).trans rfl; have hcz31_2 : w30.cell? ⟨gb191, 2, none⟩ = some (.slice A190_2 ((rd_T68 l1 x46_2).f2).length c190_2) := (blk_cell BK191.out 2).trans rfl; have hfz31_0 := blk_frozen BK191.out 0; have hfz31_1 := blk_frozen BK191.out 1; have hfz31_2 := blk_frozen BK191.out 2) | ((with_reducible refine gate_ (Op.lookup 73 (.tmp 55) (.tmp 57) false) rfl ?_); (try (refine gate_guard (by rfl) ?_; dsimp only)); refine wpList_lookup_seen rfl rfl Tryd.underlying9 Tryd.underlying73 Tryd.underlying4 (by kernel_rfl) BM x5_2 om (by (with_reducible repeat (first | refine blk_drewN ?_ _ | refine blk_drew ?_ | refine blk_alloc ?_ _ | refine obj_far ?_ GNE189.out _ | refine obj_far ?_ GNE191.out _ | refine obj_far ?_ GNE194.out _)); exact BKM.out) HS.out ((rd_T68 l1 x46_2).f0) KS.out rfl rfl ?_; (try rw [c27b0])) | ((with_reducible refine gate_ (Op.mapUpdate 73 (.tmp 82) (.tmp 84) (.const (.bool true))) rfl ?_); refine wpList_update_seen rfl rfl Tryd.underlying9 Tryd.underlying73 Tryd.underlying4 BM x5_2 om (by (with_reducible repeat (first | refine blk_drewN ?_ _ | refine blk_drew ?_ | refine blk_alloc ?_ _ | refine obj_far ?_ GNE189.out _ | refine obj_far ?_ GNE191.out _ | refine obj_far ?_ GNE194.out _)); exact BKM.out) HS.out ((rd_T68 l1 x46_2).f0) KS.out KL.out rfl rfl rfl ?_; intro wm2 hsm2 hgr2; have n0_ := Aside0.mk (pw_below_grown (by repeat (first | (with_reducible first | exact HB.out | apply below_alloc | apply pw_below_drewN | apply below_drew1 | refine below_set ?_ GE189.out | refine below_set ?_ GE191.out | refine below_set ?_ GE194.out) | exact HB.out)) (some BM) (below_size (by repeat (first | (with_reducible first | exact HB.out | apply below_alloc | apply pw_below_drewN | apply below_drew1 | refine below_set ?_ GE189.out | refine below_set ?_ GE191.out | refine below_set ?_ GE194.out) | exact HB.out))) hgr2 (fun k_ hk_ => by cases hk_; exact HBM.out)); (try (have b_ := Aside0.mk (blk_grown (g := gb189) (o := _) (by (with_reducible repeat (first | refine blk_drewN ?_ _ | refine blk_drew ?_ | refine blk_alloc ?_ _ | refine blk_put (g := gb189) ?_ _ _ rfl | refine obj_far ?_ (NB189_191.out) _ | refine obj_far ?_ (NB189_194.out) _)); exact BK189.out) hgr2 (fun e_ => GNE189.out (Option.some.inj e_).symm)); clear BK189; have BK189 := b_; clear b_)); (try (have hzm189_0 : wm2.cell? ⟨gb189, 0, none⟩ = some (.int .i64 a0_0) := (blk_cell BK189.out 0).trans rfl)); (try (have hfm189_0 := blk_frozen BK189.out 0)); (try (have hzm189_1 : wm2.cell? ⟨gb189, 1, none⟩ = some (.int .i64 a0_1) := (blk_cell BK189.out 1).trans rfl)); (try (have hfm189_1 := blk_frozen BK189.out 1)); (try (have hzm189_2 : wm2.cell? ⟨gb189, 2, none⟩ = some (.int .i64 a0_2) := (blk_cell BK189.out 2).trans rfl)); (try (have hfm189_2 := blk_frozen BK189.out 2)); (try (have b_ := Aside0.mk (blk_grown (g := gb191) (o := _) (by (with_reducible repeat (first | refine blk_drewN ?_ _ | refine blk_drew ?_ | refine blk_alloc ?_ _ | refine blk_put (g := gb191) ?_ _ _ rfl | refine obj_far ?_ (NB191_189.out) _ | refine obj_far ?_ (NB191_194.out) _)); exact BK191.out) hgr2 (fun e_ => GNE191.out (Option.some.inj e_).symm)); clear BK191; have BK191 := b_; clear b_)); (try (have hzm191_0 : wm2.cell? ⟨gb191, 0, none⟩ = some (.string ((rd_T68 l1 x46_2).f0)) := (blk_cell BK191.out 0).trans rfl)); (try (have hfm191_0 := blk_frozen BK191.out 0)); (try (have hzm191_1 : wm2.cell? ⟨gb191, 1, none⟩ = some (.int .i64 ((rd_T68 l1 x46_2).f1)) := (blk_cell BK191.out 1).trans rfl)); (try (have hfm191_1 := blk_frozen BK191.out 1)); (try (have hzm191_2 : wm2.cell? ⟨gb191, 2, none⟩ = some ((.slice A190_2 ((rd_T68 l1 x46_2).f2).length c190_2)) := (blk_cell BK191.out 2).trans rfl)); (try (have hfm191_2 := blk_frozen BK191.out 2)); (try (have b_ := Aside0.mk (blk_grown (g := gb194) (o := _) (by (with_reducible repeat (first | refine blk_drewN ?_ _ | refine blk_drew ?_ | refine blk_alloc ?_ _ | refine blk_put (g := gb194) ?_ _ _ rfl | refine obj_far ?_ (NB194_189.out) _ | refine obj_far ?_ (NB194_191.out) _)); exact BK194.out) hgr2 (fun e_ => GNE194.out (Option.some.inj e_).symm)); clear BK194; have BK194 := b_; clear b_)); clear HB; have HB := n0_; clear n0_; clear BKM HS; obtain ⟨om, hom2, hos2⟩ := hsm2; have BKM := Aside0.mk hom2; have HS := Aside0.mk hos2; clear hom2 hos2 hgr2))
            go_meet
            case rel => exact ⟨_, (true), (by first | rfl | (simp; done) | (simp [*]; done)), H', ⟨by have := HJ2.out; have := HK2.out; first | omega | exact Nat.le_refl _⟩, ⟨by (with_reducible repeat (first | refine blk_drewN ?_ _ | refine blk_drew ?_ | refine blk_alloc ?_ _)); exact BK189.out⟩, ⟨by (with_reducible repeat (first | refine blk_drewN ?_ _ | refine blk_drew ?_ | refine blk_alloc ?_ _)); exact BK191.out⟩, ⟨⟨_, (by (with_reducible repeat (first | refine blk_drewN ?_ _ | refine blk_drew ?_ | refine blk_alloc ?_ _ | refine obj_far ?_ GNE189.out _ | refine obj_far ?_ GNE191.out _ | refine obj_far ?_ GNE194.out _)); exact BKM.out), HS.out⟩⟩, ⟨by repeat (first | (with_reducible first | exact HB.out | apply below_alloc | apply pw_below_drewN | apply below_drew1 | refine below_set ?_ GE189.out | refine below_set ?_ GE191.out) | exact HB.out)⟩⟩
           ·rw [if_neg c27] at H
            have c27b0 : inB x5_2 ((rd_T68 l1 x46_2).f0) = false := Bool.eq_false_iff.mpr c27
            clear c27
            (first | rw [c27b0] | (simp only [i64_w, i32_w]; rw [c27b0]) | skip)
            by_cases c32 : ((rd_T68 l1 x46_2).f1) < 0
            ·rw [if_pos c32] at H
             have c32b0 : decide (((rd_T68 l1 x46_2).f1) < 0) = true := decide_eq_true c32
             clear c32
             have H' := Aside0.mk H
             clear H
             have hnb33 := NB191_189.out
             have hnc33 := NB189_191.out
             have hcz34_0 : w22.cell? ⟨gb191, 0, none⟩ = some (.string (⟨#[]⟩ : ByteArray)) := (blk_cell BK191.out 0).trans rfl
             have hcz34_1 : w22.cell? ⟨gb191, 1, none⟩ = some (.int .i64 0) := (blk_cell BK191.out 1).trans rfl
             have hcz34_2 : w22.cell? ⟨gb191, 2, none⟩ = some (.slice none 0 0) := (blk_cell BK191.out 2).trans rfl
             have hfz34_0 := blk_frozen BK191.out 0
             have hfz34_1 := blk_frozen BK191.out 1
             have hfz34_2 := blk_frozen BK191.out 2
             go_wp2_with (first | ((with_reducible refine gate_callee (f := 37) rfl ?_); refine goesL_ (some 52) rfl rfl Tryd.func37 (by kernel_rfl) rfl #[.string ((rd_T68 l1 x46_2).f0)] rfl (by (try simp only [List.map_toArray, List.map_cons, List.map_nil]); first | done | rfl | (simp only [List.length_drop, List.length_take]; rfl)) ?_; (with_reducible refine (impl_NameOK.calls k2 ((rd_T68 l1 x46_2).f0) true _ A25.out (laid_on HT0.out (by repeat (first | (with_reducible first | exact HB.out | apply below_alloc | apply pw_below_drewN | apply below_drew1 | refine below_set ?_ GE189.out | refine below_set ?_ GE191.out) | exact HB.out)))).mono ?_); rintro e w35 ⟨rfl, hb⟩; refine ⟨_, rfl, ?_⟩; have n0_ := Aside0.mk (blk_below (g := gb189) (o := .cells #[.int .i64 a0_0, .int .i64 a0_1, .int .i64 a0_2] 38 (0, 0)) (by (with_reducible repeat (first | refine blk_drewN ?_ _ | refine blk_drew ?_ | refine blk_alloc ?_ _)); refine blk_far ?_ NB189_191.out _; (with_reducible repeat (first | refine blk_drewN ?_ _ | refine blk_drew ?_ | refine blk_alloc ?_ _)); refine blk_far ?_ NB189_191.out _; (with_reducible repeat (first | refine blk_drewN ?_ _ | refine blk_drew ?_ | refine blk_alloc ?_ _)); refine blk_far ?_ NB189_191.out _; (with_reducible repeat (first | refine blk_drewN ?_ _ | refine blk_drew ?_ | refine blk_alloc ?_ _)); exact BK189.out) hb); have n1_ := Aside0.mk (blk_below (g := gb191) (o := .cells #[.string ((rd_T68 l1 x46_2).f0), .int .i64 ((rd_T68 l1 x46_2).f1), .slice A190_2 ((rd_T68 l1 x46_2).f2).length c190_2] 68 (0, 0)) (by (with_reducible repeat (first | refine blk_drewN ?_ _ | refine blk_drew ?_ | refine blk_alloc ?_ _)); refine blk_put (cs := #[.string ((rd_T68 l1 x46_2).f0), .int .i64 ((rd_T68 l1 x46_2).f1), .slice none 0 0]) ?_ 2 _ rfl; (with_reducible repeat (first | refine blk_drewN ?_ _ | refine blk_drew ?_ | refine blk_alloc ?_ _)); refine blk_put (cs := #[.string ((rd_T68 l1 x46_2).f0), .int .i64 0, .slice none 0 0]) ?_ 1 _ rfl; (with_reducible repeat (first | refine blk_drewN ?_ _ | refine blk_drew ?_ | refine blk_alloc ?_ _)); refine blk_put (cs := #[.string (⟨#[]⟩ : ByteArray), .int .i64 0, .slice none 0 0]) ?_ 0 _ rfl; (with_reducible repeat (first | refine blk_drewN ?_ _ | refine blk_drew ?_ | refine blk_alloc ?_ _)); exact BK191.out) hb); have n2_ := Aside0.mk (below_step (by repeat (first | (with_reducible first | exact HB.out | apply below_alloc | apply pw_below_drewN | apply below_drew1 | refine below_set ?_ GE189.out | refine below_set ?_ GE191.out) | exact HB.out)) hb); clear BK189; clear BK191; clear HB; have BK189 := n0_; have BK191 := n1_; have HB := n2_; clear n0_ n1_ n2_; have m0_ := Aside0.mk (blk_below (g := BM) (o := om) (by (with_reducible repeat (first | refine blk_drewN ?_ _ | refine blk_drew ?_ | refine blk_alloc ?_ _ | refine obj_far ?_ GNE189.out _ | refine obj_far ?_ GNE191.out _ | refine obj_far ?_ GNE194.out _)); exact BKM.out) hb); clear BKM; have BKM := m0_; clear m0_; (try clear hb); (try clear hb2); (try clear hk); (try clear hi); have hcz36_0 : w35.cell? ⟨gb191, 0, none⟩ = some (.string ((rd_T68 l1 x46_2).f0)) := (blk_cell BK191.out 0).trans rfl; have hcz36_1 : w35.cell? ⟨gb191, 1, none⟩ = some (.int .i64 ((rd_T68 l1 x46_2).f1)) := (blk_cell BK191.out 1).trans rfl; have hcz36_2 : w35.cell? ⟨gb191, 2, none⟩ = some (.slice A190_2 ((rd_T68 l1 x46_2).f2).length c190_2) := (blk_cell BK191.out 2).trans rfl; have hfz36_0 := blk_frozen BK191.out 0; have hfz36_1 := blk_frozen BK191.out 1; have hfz36_2 := blk_frozen BK191.out 2) | ((with_reducible refine gate_ (Op.lookup 73 (.tmp 55) (.tmp 57) false) rfl ?_); (try (refine gate_guard (by rfl) ?_; dsimp only)); refine wpList_lookup_seen rfl rfl Tryd.underlying9 Tryd.underlying73 Tryd.underlying4 (by kernel_rfl) BM x5_2 om (by (with_reducible repeat (first | refine blk_drewN ?_ _ | refine blk_drew ?_ | refine blk_alloc ?_ _ | refine obj_far ?_ GNE189.out _ | refine obj_far ?_ GNE191.out _ | refine obj_far ?_ GNE194.out _)); exact BKM.out) HS.out ((rd_T68 l1 x46_2).f0) KS.out rfl rfl ?_; (try rw [c27b0])) | ((with_reducible refine gate_ (Op.mapUpdate 73 (.tmp 82) (.tmp 84) (.const (.bool true))) rfl ?_); refine wpList_update_seen rfl rfl Tryd.underlying9 Tryd.underlying73 Tryd.underlying4 BM x5_2 om (by (with_reducible repeat (first | refine blk_drewN ?_ _ | refine blk_drew ?_ | refine blk_alloc ?_ _ | refine obj_far ?_ GNE189.out _ | refine obj_far ?_ GNE191.out _ | refine obj_far ?_ GNE194.out _)); exact BKM.out) HS.out ((rd_T68 l1 x46_2).f0) KS.out KL.out rfl rfl rfl ?_; intro wm2 hsm2 hgr2; have n0_ := Aside0.mk (pw_below_grown (by repeat (first | (with_reducible first | exact HB.out | apply below_alloc | apply pw_below_drewN | apply below_drew1 | refine below_set ?_ GE189.out | refine below_set ?_ GE191.out | refine below_set ?_ GE194.out) | exact HB.out)) (some BM) (below_size (by repeat (first | (with_reducible first | exact HB.out | apply below_alloc | apply pw_below_drewN | apply below_drew1 | refine below_set ?_ GE189.out | refine below_set ?_ GE191.out | refine below_set ?_ GE194.out) | exact HB.out))) hgr2 (fun k_ hk_ => by cases hk_; exact HBM.out)); (try (have b_ := Aside0.mk (blk_grown (g := gb189) (o := _) (by (with_reducible repeat (first | refine blk_drewN ?_ _ | refine blk_drew ?_ | refine blk_alloc ?_ _ | refine blk_put (g := gb189) ?_ _ _ rfl | refine obj_far ?_ (NB189_191.out) _ | refine obj_far ?_ (NB189_194.out) _)); exact BK189.out) hgr2 (fun e_ => GNE189.out (Option.some.inj e_).symm)); clear BK189; have BK189 := b_; clear b_)); (try (have hzm189_0 : wm2.cell? ⟨gb189, 0, none⟩ = some (.int .i64 a0_0) := (blk_cell BK189.out 0).trans rfl)); (try (have hfm189_0 := blk_frozen BK189.out 0)); (try (have hzm189_1 : wm2.cell? ⟨gb189, 1, none⟩ = some (.int .i64 a0_1) := (blk_cell BK189.out 1).trans rfl)); (try (have hfm189_1 := blk_frozen BK189.out 1)); (try (have hzm189_2 : wm2.cell? ⟨gb189, 2, none⟩ = some (.int .i64 a0_2) := (blk_cell BK189.out 2).trans rfl)); (try (have hfm189_2 := blk_frozen BK189.out 2)); (try (have b_ := Aside0.mk (blk_grown (g := gb191) (o := _) (by (with_reducible repeat (first | refine blk_drewN ?_ _ | refine blk_drew ?_ | refine blk_alloc ?_ _ | refine blk_put (g := gb191) ?_ _ _ rfl | refine obj_far ?_ (NB191_189.out) _ | refine obj_far ?_ (NB191_194.out) _)); exact BK191.out) hgr2 (fun e_ => GNE191.out (Option.some.inj e_).symm)); clear BK191; have BK191 := b_; clear b_)); (try (have hzm191_0 : wm2.cell? ⟨gb191, 0, none⟩ = some (.string ((rd_T68 l1 x46_2).f0)) := (blk_cell BK191.out 0).trans rfl)); (try (have hfm191_0 := blk_frozen BK191.out 0)); (try (have hzm191_1 : wm2.cell? ⟨gb191, 1, none⟩ = some (.int .i64 ((rd_T68 l1 x46_2).f1)) := (blk_cell BK191.out 1).trans rfl)); (try (have hfm191_1 := blk_frozen BK191.out 1)); (try (have hzm191_2 : wm2.cell? ⟨gb191, 2, none⟩ = some ((.slice A190_2 ((rd_T68 l1 x46_2).f2).length c190_2)) := (blk_cell BK191.out 2).trans rfl)); (try (have hfm191_2 := blk_frozen BK191.out 2)); (try (have b_ := Aside0.mk (blk_grown (g := gb194) (o := _) (by (with_reducible repeat (first | refine blk_drewN ?_ _ | refine blk_drew ?_ | refine blk_alloc ?_ _ | refine blk_put (g := gb194) ?_ _ _ rfl | refine obj_far ?_ (NB194_189.out) _ | refine obj_far ?_ (NB194_191.out) _)); exact BK194.out) hgr2 (fun e_ => GNE194.out (Option.some.inj e_).symm)); clear BK194; have BK194 := b_; clear b_)); clear HB; have HB := n0_; clear n0_; clear BKM HS; obtain ⟨om, hom2, hos2⟩ := hsm2; have BKM := Aside0.mk hom2; have HS := Aside0.mk hos2; clear hom2 hos2 hgr2))
             go_meet
             case rel => exact ⟨_, (true), (by first | rfl | (simp; done) | (simp [*]; done)), H', ⟨by have := HJ2.out; have := HK2.out; first | omega | exact Nat.le_refl _⟩, ⟨by (with_reducible repeat (first | refine blk_drewN ?_ _ | refine blk_drew ?_ | refine blk_alloc ?_ _)); exact BK189.out⟩, ⟨by (with_reducible repeat (first | refine blk_drewN ?_ _ | refine blk_drew ?_ | refine blk_alloc ?_ _)); exact BK191.out⟩, ⟨⟨_, (by (with_reducible repeat (first | refine blk_drewN ?_ _ | refine blk_drew ?_ | refine blk_alloc ?_ _ | refine obj_far ?_ GNE189.out _ | refine obj_far ?_ GNE191.out _ | refine obj_far ?_ GNE194.out _)); exact BKM.out), HS.out⟩⟩, ⟨by repeat (first | (with_reducible first | exact HB.out | apply below_alloc | apply pw_below_drewN | apply below_drew1 | refine below_set ?_ GE189.out | refine below_set ?_ GE191.out) | exact HB.out)⟩⟩
            ·rw [if_neg c32] at H
             have c32b0 : decide (((rd_T68 l1 x46_2).f1) < 0) = false := decide_eq_false c32
             clear c32
             by_cases c37 : ((rd_T68 l1 x46_2).f1) > 1000000
             ·rw [if_pos c37] at H
              have c37b0 : decide (1000000 < ((rd_T68 l1 x46_2).f1)) = true := decide_eq_true c37
              clear c37
              have H' := Aside0.mk H
              clear H
              have hnb38 := NB191_189.out
              have hnc38 := NB189_191.out
              have hcz39_0 : w22.cell? ⟨gb191, 0, none⟩ = some (.string (⟨#[]⟩ : ByteArray)) := (blk_cell BK191.out 0).trans rfl
              have hcz39_1 : w22.cell? ⟨gb191, 1, none⟩ = some (.int .i64 0) := (blk_cell BK191.out 1).trans rfl
              have hcz39_2 : w22.cell? ⟨gb191, 2, none⟩ = some (.slice none 0 0) := (blk_cell BK191.out 2).trans rfl
              have hfz39_0 := blk_frozen BK191.out 0
              have hfz39_1 := blk_frozen BK191.out 1
              have hfz39_2 := blk_frozen BK191.out 2
              go_wp2_with (first | ((with_reducible refine gate_callee (f := 37) rfl ?_); refine goesL_ (some 52) rfl rfl Tryd.func37 (by kernel_rfl) rfl #[.string ((rd_T68 l1 x46_2).f0)] rfl (by (try simp only [List.map_toArray, List.map_cons, List.map_nil]); first | done | rfl | (simp only [List.length_drop, List.length_take]; rfl)) ?_; (with_reducible refine (impl_NameOK.calls k2 ((rd_T68 l1 x46_2).f0) true _ A25.out (laid_on HT0.out (by repeat (first | (with_reducible first | exact HB.out | apply below_alloc | apply pw_below_drewN | apply below_drew1 | refine below_set ?_ GE189.out | refine below_set ?_ GE191.out) | exact HB.out)))).mono ?_); rintro e w40 ⟨rfl, hb⟩; refine ⟨_, rfl, ?_⟩; have n0_ := Aside0.mk (blk_below (g := gb189) (o := .cells #[.int .i64 a0_0, .int .i64 a0_1, .int .i64 a0_2] 38 (0, 0)) (by (with_reducible repeat (first | refine blk_drewN ?_ _ | refine blk_drew ?_ | refine blk_alloc ?_ _)); refine blk_far ?_ NB189_191.out _; (with_reducible repeat (first | refine blk_drewN ?_ _ | refine blk_drew ?_ | refine blk_alloc ?_ _)); refine blk_far ?_ NB189_191.out _; (with_reducible repeat (first | refine blk_drewN ?_ _ | refine blk_drew ?_ | refine blk_alloc ?_ _)); refine blk_far ?_ NB189_191.out _; (with_reducible repeat (first | refine blk_drewN ?_ _ | refine blk_drew ?_ | refine blk_alloc ?_ _)); exact BK189.out) hb); have n1_ := Aside0.mk (blk_below (g := gb191) (o := .cells #[.string ((rd_T68 l1 x46_2).f0), .int .i64 ((rd_T68 l1 x46_2).f1), .slice A190_2 ((rd_T68 l1 x46_2).f2).length c190_2] 68 (0, 0)) (by (with_reducible repeat (first | refine blk_drewN ?_ _ | refine blk_drew ?_ | refine blk_alloc ?_ _)); refine blk_put (cs := #[.string ((rd_T68 l1 x46_2).f0), .int .i64 ((rd_T68 l1 x46_2).f1), .slice none 0 0]) ?_ 2 _ rfl; (with_reducible repeat (first | refine blk_drewN ?_ _ | refine blk_drew ?_ | refine blk_alloc ?_ _)); refine blk_put (cs := #[.string ((rd_T68 l1 x46_2).f0), .int .i64 0, .slice none 0 0]) ?_ 1 _ rfl; (with_reducible repeat (first | refine blk_drewN ?_ _ | refine blk_drew ?_ | refine blk_alloc ?_ _)); refine blk_put (cs := #[.string (⟨#[]⟩ : ByteArray), .int .i64 0, .slice none 0 0]) ?_ 0 _ rfl; (with_reducible repeat (first | refine blk_drewN ?_ _ | refine blk_drew ?_ | refine blk_alloc ?_ _)); exact BK191.out) hb); have n2_ := Aside0.mk (below_step (by repeat (first | (with_reducible first | exact HB.out | apply below_alloc | apply pw_below_drewN | apply below_drew1 | refine below_set ?_ GE189.out | refine below_set ?_ GE191.out) | exact HB.out)) hb); clear BK189; clear BK191; clear HB; have BK189 := n0_; have BK191 := n1_; have HB := n2_; clear n0_ n1_ n2_; have m0_ := Aside0.mk (blk_below (g := BM) (o := om) (by (with_reducible repeat (first | refine blk_drewN ?_ _ | refine blk_drew ?_ | refine blk_alloc ?_ _ | refine obj_far ?_ GNE189.out _ | refine obj_far ?_ GNE191.out _ | refine obj_far ?_ GNE194.out _)); exact BKM.out) hb); clear BKM; have BKM := m0_; clear m0_; (try clear hb); (try clear hb2); (try clear hk); (try clear hi); have hcz41_0 : w40.cell? ⟨gb191, 0, none⟩ = some (.string ((rd_T68 l1 x46_2).f0)) := (blk_cell BK191.out 0).trans rfl; have hcz41_1 : w40.cell? ⟨gb191, 1, none⟩ = some (.int .i64 ((rd_T68 l1 x46_2).f1)) := (blk_cell BK191.out 1).trans rfl; have hcz41_2 : w40.cell? ⟨gb191, 2, none⟩ = some (.slice A190_2 ((rd_T68 l1 x46_2).f2).length c190_2) := (blk_cell BK191.out 2).trans rfl; have hfz41_0 := blk_frozen BK191.out 0; have hfz41_1 := blk_frozen BK191.out 1; have hfz41_2 := blk_frozen BK191.out 2) | ((with_reducible refine gate_ (Op.lookup 73 (.tmp 55) (.tmp 57) false) rfl ?_); (try (refine gate_guard (by rfl) ?_; dsimp only)); refine wpList_lookup_seen rfl rfl Tryd.underlying9 Tryd.underlying73 Tryd.underlying4 (by kernel_rfl) BM x5_2 om (by (with_reducible repeat (first | refine blk_drewN ?_ _ | refine blk_drew ?_ | refine blk_alloc ?_ _ | refine obj_far ?_ GNE189.out _ | refine obj_far ?_ GNE191.out _ | refine obj_far ?_ GNE194.out _)); exact BKM.out) HS.out ((rd_T68 l1 x46_2).f0) KS.out rfl rfl ?_; (try rw [c27b0])) | ((with_reducible refine gate_ (Op.mapUpdate 73 (.tmp 82) (.tmp 84) (.const (.bool true))) rfl ?_); refine wpList_update_seen rfl rfl Tryd.underlying9 Tryd.underlying73 Tryd.underlying4 BM x5_2 om (by (with_reducible repeat (first | refine blk_drewN ?_ _ | refine blk_drew ?_ | refine blk_alloc ?_ _ | refine obj_far ?_ GNE189.out _ | refine obj_far ?_ GNE191.out _ | refine obj_far ?_ GNE194.out _)); exact BKM.out) HS.out ((rd_T68 l1 x46_2).f0) KS.out KL.out rfl rfl rfl ?_; intro wm2 hsm2 hgr2; have n0_ := Aside0.mk (pw_below_grown (by repeat (first | (with_reducible first | exact HB.out | apply below_alloc | apply pw_below_drewN | apply below_drew1 | refine below_set ?_ GE189.out | refine below_set ?_ GE191.out | refine below_set ?_ GE194.out) | exact HB.out)) (some BM) (below_size (by repeat (first | (with_reducible first | exact HB.out | apply below_alloc | apply pw_below_drewN | apply below_drew1 | refine below_set ?_ GE189.out | refine below_set ?_ GE191.out | refine below_set ?_ GE194.out) | exact HB.out))) hgr2 (fun k_ hk_ => by cases hk_; exact HBM.out)); (try (have b_ := Aside0.mk (blk_grown (g := gb189) (o := _) (by (with_reducible repeat (first | refine blk_drewN ?_ _ | refine blk_drew ?_ | refine blk_alloc ?_ _ | refine blk_put (g := gb189) ?_ _ _ rfl | refine obj_far ?_ (NB189_191.out) _ | refine obj_far ?_ (NB189_194.out) _)); exact BK189.out) hgr2 (fun e_ => GNE189.out (Option.some.inj e_).symm)); clear BK189; have BK189 := b_; clear b_)); (try (have hzm189_0 : wm2.cell? ⟨gb189, 0, none⟩ = some (.int .i64 a0_0) := (blk_cell BK189.out 0).trans rfl)); (try (have hfm189_0 := blk_frozen BK189.out 0)); (try (have hzm189_1 : wm2.cell? ⟨gb189, 1, none⟩ = some (.int .i64 a0_1) := (blk_cell BK189.out 1).trans rfl)); (try (have hfm189_1 := blk_frozen BK189.out 1)); (try (have hzm189_2 : wm2.cell? ⟨gb189, 2, none⟩ = some (.int .i64 a0_2) := (blk_cell BK189.out 2).trans rfl)); (try (have hfm189_2 := blk_frozen BK189.out 2)); (try (have b_ := Aside0.mk (blk_grown (g := gb191) (o := _) (by (with_reducible repeat (first | refine blk_drewN ?_ _ | refine blk_drew ?_ | refine blk_alloc ?_ _ | refine blk_put (g := gb191) ?_ _ _ rfl | refine obj_far ?_ (NB191_189.out) _ | refine obj_far ?_ (NB191_194.out) _)); exact BK191.out) hgr2 (fun e_ => GNE191.out (Option.some.inj e_).symm)); clear BK191; have BK191 := b_; clear b_)); (try (have hzm191_0 : wm2.cell? ⟨gb191, 0, none⟩ = some (.string ((rd_T68 l1 x46_2).f0)) := (blk_cell BK191.out 0).trans rfl)); (try (have hfm191_0 := blk_frozen BK191.out 0)); (try (have hzm191_1 : wm2.cell? ⟨gb191, 1, none⟩ = some (.int .i64 ((rd_T68 l1 x46_2).f1)) := (blk_cell BK191.out 1).trans rfl)); (try (have hfm191_1 := blk_frozen BK191.out 1)); (try (have hzm191_2 : wm2.cell? ⟨gb191, 2, none⟩ = some ((.slice A190_2 ((rd_T68 l1 x46_2).f2).length c190_2)) := (blk_cell BK191.out 2).trans rfl)); (try (have hfm191_2 := blk_frozen BK191.out 2)); (try (have b_ := Aside0.mk (blk_grown (g := gb194) (o := _) (by (with_reducible repeat (first | refine blk_drewN ?_ _ | refine blk_drew ?_ | refine blk_alloc ?_ _ | refine blk_put (g := gb194) ?_ _ _ rfl | refine obj_far ?_ (NB194_189.out) _ | refine obj_far ?_ (NB194_191.out) _)); exact BK194.out) hgr2 (fun e_ => GNE194.out (Option.some.inj e_).symm)); clear BK194; have BK194 := b_; clear b_)); clear HB; have HB := n0_; clear n0_; clear BKM HS; obtain ⟨om, hom2, hos2⟩ := hsm2; have BKM := Aside0.mk hom2; have HS := Aside0.mk hos2; clear hom2 hos2 hgr2))
              go_meet
              case rel => exact ⟨_, (true), (by first | rfl | (simp; done) | (simp [*]; done)), H', ⟨by have := HJ2.out; have := HK2.out; first | omega | exact Nat.le_refl _⟩, ⟨by (with_reducible repeat (first | refine blk_drewN ?_ _ | refine blk_drew ?_ | refine blk_alloc ?_ _)); exact BK189.out⟩, ⟨by (with_reducible repeat (first | refine blk_drewN ?_ _ | refine blk_drew ?_ | refine blk_alloc ?_ _)); exact BK191.out⟩, ⟨⟨_, (by (with_reducible repeat (first | refine blk_drewN ?_ _ | refine blk_drew ?_ | refine blk_alloc ?_ _ | refine obj_far ?_ GNE189.out _ | refine obj_far ?_ GNE191.out _ | refine obj_far ?_ GNE194.out _)); exact BKM.out), HS.out⟩⟩, ⟨by repeat (first | (with_reducible first | exact HB.out | apply below_alloc | apply pw_below_drewN | apply below_drew1 | refine below_set ?_ GE189.out | refine below_set ?_ GE191.out) | exact HB.out)⟩⟩
             ·rw [if_neg c37] at H
              have c37b0 : decide (1000000 < ((rd_T68 l1 x46_2).f1)) = false := decide_eq_false c37
              clear c37
              by_cases c42 : (((rd_T68 l1 x46_2).f2).length : Int) < 1
              ·rw [if_pos c42] at H
               have c42b0 : decide ((((rd_T68 l1 x46_2).f2).length : Int) < 1) = true := decide_eq_true c42
               have c42b1 : decide (((rd_T68 l1 x46_2).f2).length < 1) = true := decide_eq_true (by omega)
               clear c42
               have H' := Aside0.mk H
               clear H
               have hnb43 := NB191_189.out
               have hnc43 := NB189_191.out
               have hcz44_0 : w22.cell? ⟨gb191, 0, none⟩ = some (.string (⟨#[]⟩ : ByteArray)) := (blk_cell BK191.out 0).trans rfl
               have hcz44_1 : w22.cell? ⟨gb191, 1, none⟩ = some (.int .i64 0) := (blk_cell BK191.out 1).trans rfl
               have hcz44_2 : w22.cell? ⟨gb191, 2, none⟩ = some (.slice none 0 0) := (blk_cell BK191.out 2).trans rfl
               have hfz44_0 := blk_frozen BK191.out 0
               have hfz44_1 := blk_frozen BK191.out 1
               have hfz44_2 := blk_frozen BK191.out 2
               go_wp2_with (first | ((with_reducible refine gate_callee (f := 37) rfl ?_); refine goesL_ (some 52) rfl rfl Tryd.func37 (by kernel_rfl) rfl #[.string ((rd_T68 l1 x46_2).f0)] rfl (by (try simp only [List.map_toArray, List.map_cons, List.map_nil]); first | done | rfl | (simp only [List.length_drop, List.length_take]; rfl)) ?_; (with_reducible refine (impl_NameOK.calls k2 ((rd_T68 l1 x46_2).f0) true _ A25.out (laid_on HT0.out (by repeat (first | (with_reducible first | exact HB.out | apply below_alloc | apply pw_below_drewN | apply below_drew1 | refine below_set ?_ GE189.out | refine below_set ?_ GE191.out) | exact HB.out)))).mono ?_); rintro e w45 ⟨rfl, hb⟩; refine ⟨_, rfl, ?_⟩; have n0_ := Aside0.mk (blk_below (g := gb189) (o := .cells #[.int .i64 a0_0, .int .i64 a0_1, .int .i64 a0_2] 38 (0, 0)) (by (with_reducible repeat (first | refine blk_drewN ?_ _ | refine blk_drew ?_ | refine blk_alloc ?_ _)); refine blk_far ?_ NB189_191.out _; (with_reducible repeat (first | refine blk_drewN ?_ _ | refine blk_drew ?_ | refine blk_alloc ?_ _)); refine blk_far ?_ NB189_191.out _; (with_reducible repeat (first | refine blk_drewN ?_ _ | refine blk_drew ?_ | refine blk_alloc ?_ _)); refine blk_far ?_ NB189_191.out _; (with_reducible repeat (first | refine blk_drewN ?_ _ | refine blk_drew ?_ | refine blk_alloc ?_ _)); exact BK189.out) hb); have n1_ := Aside0.mk (blk_below (g := gb191) (o := .cells #[.string ((rd_T68 l1 x46_2).f0), .int .i64 ((rd_T68 l1 x46_2).f1), .slice A190_2 ((rd_T68 l1 x46_2).f2).length c190_2] 68 (0, 0)) (by (with_reducible repeat (first | refine blk_drewN ?_ _ | refine blk_drew ?_ | refine blk_alloc ?_ _)); refine blk_put (cs := #[.string ((rd_T68 l1 x46_2).f0), .int .i64 ((rd_T68 l1 x46_2).f1), .slice none 0 0]) ?_ 2 _ rfl; (with_reducible repeat (first | refine blk_drewN ?_ _ | refine blk_drew ?_ | refine blk_alloc ?_ _)); refine blk_put (cs := #[.string ((rd_T68 l1 x46_2).f0), .int .i64 0, .slice none 0 0]) ?_ 1 _ rfl; (with_reducible repeat (first | refine blk_drewN ?_ _ | refine blk_drew ?_ | refine blk_alloc ?_ _)); refine blk_put (cs := #[.string (⟨#[]⟩ : ByteArray), .int .i64 0, .slice none 0 0]) ?_ 0 _ rfl; (with_reducible repeat (first | refine blk_drewN ?_ _ | refine blk_drew ?_ | refine blk_alloc ?_ _)); exact BK191.out) hb); have n2_ := Aside0.mk (below_step (by repeat (first | (with_reducible first | exact HB.out | apply below_alloc | apply pw_below_drewN | apply below_drew1 | refine below_set ?_ GE189.out | refine below_set ?_ GE191.out) | exact HB.out)) hb); clear BK189; clear BK191; clear HB; have BK189 := n0_; have BK191 := n1_; have HB := n2_; clear n0_ n1_ n2_; have m0_ := Aside0.mk (blk_below (g := BM) (o := om) (by (with_reducible repeat (first | refine blk_drewN ?_ _ | refine blk_drew ?_ | refine blk_alloc ?_ _ | refine obj_far ?_ GNE189.out _ | refine obj_far ?_ GNE191.out _ | refine obj_far ?_ GNE194.out _)); exact BKM.out) hb); clear BKM; have BKM := m0_; clear m0_; (try clear hb); (try clear hb2); (try clear hk); (try clear hi); have hcz46_0 : w45.cell? ⟨gb191, 0, none⟩ = some (.string ((rd_T68 l1 x46_2).f0)) := (blk_cell BK191.out 0).trans rfl; have hcz46_1 : w45.cell? ⟨gb191, 1, none⟩ = some (.int .i64 ((rd_T68 l1 x46_2).f1)) := (blk_cell BK191.out 1).trans rfl; have hcz46_2 : w45.cell? ⟨gb191, 2, none⟩ = some (.slice A190_2 ((rd_T68 l1 x46_2).f2).length c190_2) := (blk_cell BK191.out 2).trans rfl; have hfz46_0 := blk_frozen BK191.out 0; have hfz46_1 := blk_frozen BK191.out 1; have hfz46_2 := blk_frozen BK191.out 2) | ((with_reducible refine gate_ (Op.lookup 73 (.tmp 55) (.tmp 57) false) rfl ?_); (try (refine gate_guard (by rfl) ?_; dsimp only)); refine wpList_lookup_seen rfl rfl Tryd.underlying9 Tryd.underlying73 Tryd.underlying4 (by kernel_rfl) BM x5_2 om (by (with_reducible repeat (first | refine blk_drewN ?_ _ | refine blk_drew ?_ | refine blk_alloc ?_ _ | refine obj_far ?_ GNE189.out _ | refine obj_far ?_ GNE191.out _ | refine obj_far ?_ GNE194.out _)); exact BKM.out) HS.out ((rd_T68 l1 x46_2).f0) KS.out rfl rfl ?_; (try rw [c27b0])) | ((with_reducible refine gate_ (Op.mapUpdate 73 (.tmp 82) (.tmp 84) (.const (.bool true))) rfl ?_); refine wpList_update_seen rfl rfl Tryd.underlying9 Tryd.underlying73 Tryd.underlying4 BM x5_2 om (by (with_reducible repeat (first | refine blk_drewN ?_ _ | refine blk_drew ?_ | refine blk_alloc ?_ _ | refine obj_far ?_ GNE189.out _ | refine obj_far ?_ GNE191.out _ | refine obj_far ?_ GNE194.out _)); exact BKM.out) HS.out ((rd_T68 l1 x46_2).f0) KS.out KL.out rfl rfl rfl ?_; intro wm2 hsm2 hgr2; have n0_ := Aside0.mk (pw_below_grown (by repeat (first | (with_reducible first | exact HB.out | apply below_alloc | apply pw_below_drewN | apply below_drew1 | refine below_set ?_ GE189.out | refine below_set ?_ GE191.out | refine below_set ?_ GE194.out) | exact HB.out)) (some BM) (below_size (by repeat (first | (with_reducible first | exact HB.out | apply below_alloc | apply pw_below_drewN | apply below_drew1 | refine below_set ?_ GE189.out | refine below_set ?_ GE191.out | refine below_set ?_ GE194.out) | exact HB.out))) hgr2 (fun k_ hk_ => by cases hk_; exact HBM.out)); (try (have b_ := Aside0.mk (blk_grown (g := gb189) (o := _) (by (with_reducible repeat (first | refine blk_drewN ?_ _ | refine blk_drew ?_ | refine blk_alloc ?_ _ | refine blk_put (g := gb189) ?_ _ _ rfl | refine obj_far ?_ (NB189_191.out) _ | refine obj_far ?_ (NB189_194.out) _)); exact BK189.out) hgr2 (fun e_ => GNE189.out (Option.some.inj e_).symm)); clear BK189; have BK189 := b_; clear b_)); (try (have hzm189_0 : wm2.cell? ⟨gb189, 0, none⟩ = some (.int .i64 a0_0) := (blk_cell BK189.out 0).trans rfl)); (try (have hfm189_0 := blk_frozen BK189.out 0)); (try (have hzm189_1 : wm2.cell? ⟨gb189, 1, none⟩ = some (.int .i64 a0_1) := (blk_cell BK189.out 1).trans rfl)); (try (have hfm189_1 := blk_frozen BK189.out 1)); (try (have hzm189_2 : wm2.cell? ⟨gb189, 2, none⟩ = some (.int .i64 a0_2) := (blk_cell BK189.out 2).trans rfl)); (try (have hfm189_2 := blk_frozen BK189.out 2)); (try (have b_ := Aside0.mk (blk_grown (g := gb191) (o := _) (by (with_reducible repeat (first | refine blk_drewN ?_ _ | refine blk_drew ?_ | refine blk_alloc ?_ _ | refine blk_put (g := gb191) ?_ _ _ rfl | refine obj_far ?_ (NB191_189.out) _ | refine obj_far ?_ (NB191_194.out) _)); exact BK191.out) hgr2 (fun e_ => GNE191.out (Option.some.inj e_).symm)); clear BK191; have BK191 := b_; clear b_)); (try (have hzm191_0 : wm2.cell? ⟨gb191, 0, none⟩ = some (.string ((rd_T68 l1 x46_2).f0)) := (blk_cell BK191.out 0).trans rfl)); (try (have hfm191_0 := blk_frozen BK191.out 0)); (try (have hzm191_1 : wm2.cell? ⟨gb191, 1, none⟩ = some (.int .i64 ((rd_T68 l1 x46_2).f1)) := (blk_cell BK191.out 1).trans rfl)); (try (have hfm191_1 := blk_frozen BK191.out 1)); (try (have hzm191_2 : wm2.cell? ⟨gb191, 2, none⟩ = some ((.slice A190_2 ((rd_T68 l1 x46_2).f2).length c190_2)) := (blk_cell BK191.out 2).trans rfl)); (try (have hfm191_2 := blk_frozen BK191.out 2)); (try (have b_ := Aside0.mk (blk_grown (g := gb194) (o := _) (by (with_reducible repeat (first | refine blk_drewN ?_ _ | refine blk_drew ?_ | refine blk_alloc ?_ _ | refine blk_put (g := gb194) ?_ _ _ rfl | refine obj_far ?_ (NB194_189.out) _ | refine obj_far ?_ (NB194_191.out) _)); exact BK194.out) hgr2 (fun e_ => GNE194.out (Option.some.inj e_).symm)); clear BK194; have BK194 := b_; clear b_)); clear HB; have HB := n0_; clear n0_; clear BKM HS; obtain ⟨om, hom2, hos2⟩ := hsm2; have BKM := Aside0.mk hom2; have HS := Aside0.mk hos2; clear hom2 hos2 hgr2))
               go_meet
               case rel => exact ⟨_, (true), (by first | rfl | (simp; done) | (simp [*]; done)), H', ⟨by have := HJ2.out; have := HK2.out; first | omega | exact Nat.le_refl _⟩, ⟨by (with_reducible repeat (first | refine blk_drewN ?_ _ | refine blk_drew ?_ | refine blk_alloc ?_ _)); exact BK189.out⟩, ⟨by (with_reducible repeat (first | refine blk_drewN ?_ _ | refine blk_drew ?_ | refine blk_alloc ?_ _)); exact BK191.out⟩, ⟨⟨_, (by (with_reducible repeat (first | refine blk_drewN ?_ _ | refine blk_drew ?_ | refine blk_alloc ?_ _ | refine obj_far ?_ GNE189.out _ | refine obj_far ?_ GNE191.out _ | refine obj_far ?_ GNE194.out _)); exact BKM.out), HS.out⟩⟩, ⟨by repeat (first | (with_reducible first | exact HB.out | apply below_alloc | apply pw_below_drewN | apply below_drew1 | refine below_set ?_ GE189.out | refine below_set ?_ GE191.out) | exact HB.out)⟩⟩
              ·rw [if_neg c42] at H
               have c42b0 : decide ((((rd_T68 l1 x46_2).f2).length : Int) < 1) = false := decide_eq_false c42
               have c42b1 : decide (((rd_T68 l1 x46_2).f2).length < 1) = false := decide_eq_false (by omega)
               clear c42
               have H' := Aside0.mk H
               clear H
               have hnb47 := NB191_189.out
               have hnc47 := NB189_191.out
               have hcz48_0 : w22.cell? ⟨gb191, 0, none⟩ = some (.string (⟨#[]⟩ : ByteArray)) := (blk_cell BK191.out 0).trans rfl
               have hcz48_1 : w22.cell? ⟨gb191, 1, none⟩ = some (.int .i64 0) := (blk_cell BK191.out 1).trans rfl
               have hcz48_2 : w22.cell? ⟨gb191, 2, none⟩ = some (.slice none 0 0) := (blk_cell BK191.out 2).trans rfl
               have hfz48_0 := blk_frozen BK191.out 0
               have hfz48_1 := blk_frozen BK191.out 1
               have hfz48_2 := blk_frozen BK191.out 2
               go_wp2_with (first | ((with_reducible refine gate_callee (f := 37) rfl ?_); refine goesL_ (some 52) rfl rfl Tryd.func37 (by kernel_rfl) rfl #[.string ((rd_T68 l1 x46_2).f0)] rfl (by (try simp only [List.map_toArray, List.map_cons, List.map_nil]); first | done | rfl | (simp only [List.length_drop, List.length_take]; rfl)) ?_; (with_reducible refine (impl_NameOK.calls k2 ((rd_T68 l1 x46_2).f0) true _ A25.out (laid_on HT0.out (by repeat (first | (with_reducible first | exact HB.out | apply below_alloc | apply pw_below_drewN | apply below_drew1 | refine below_set ?_ GE189.out | refine below_set ?_ GE191.out) | exact HB.out)))).mono ?_); rintro e w49 ⟨rfl, hb⟩; refine ⟨_, rfl, ?_⟩; have n0_ := Aside0.mk (blk_below (g := gb189) (o := .cells #[.int .i64 a0_0, .int .i64 a0_1, .int .i64 a0_2] 38 (0, 0)) (by (with_reducible repeat (first | refine blk_drewN ?_ _ | refine blk_drew ?_ | refine blk_alloc ?_ _)); refine blk_far ?_ NB189_191.out _; (with_reducible repeat (first | refine blk_drewN ?_ _ | refine blk_drew ?_ | refine blk_alloc ?_ _)); refine blk_far ?_ NB189_191.out _; (with_reducible repeat (first | refine blk_drewN ?_ _ | refine blk_drew ?_ | refine blk_alloc ?_ _)); refine blk_far ?_ NB189_191.out _; (with_reducible repeat (first | refine blk_drewN ?_ _ | refine blk_drew ?_ | refine blk_alloc ?_ _)); exact BK189.out) hb); have n1_ := Aside0.mk (blk_below (g := gb191) (o := .cells #[.string ((rd_T68 l1 x46_2).f0), .int .i64 ((rd_T68 l1 x46_2).f1), .slice A190_2 ((rd_T68 l1 x46_2).f2).length c190_2] 68 (0, 0)) (by (with_reducible repeat (first | refine blk_drewN ?_ _ | refine blk_drew ?_ | refine blk_alloc ?_ _)); refine blk_put (cs := #[.string ((rd_T68 l1 x46_2).f0), .int .i64 ((rd_T68 l1 x46_2).f1), .slice none 0 0]) ?_ 2 _ rfl; (with_reducible repeat (first | refine blk_drewN ?_ _ | refine blk_drew ?_ | refine blk_alloc ?_ _)); refine blk_put (cs := #[.string ((rd_T68 l1 x46_2).f0), .int .i64 0, .slice none 0 0]) ?_ 1 _ rfl; (with_reducible repeat (first | refine blk_drewN ?_ _ | refine blk_drew ?_ | refine blk_alloc ?_ _)); refine blk_put (cs := #[.string (⟨#[]⟩ : ByteArray), .int .i64 0, .slice none 0 0]) ?_ 0 _ rfl; (with_reducible repeat (first | refine blk_drewN ?_ _ | refine blk_drew ?_ | refine blk_alloc ?_ _)); exact BK191.out) hb); have n2_ := Aside0.mk (below_step (by repeat (first | (with_reducible first | exact HB.out | apply below_alloc | apply pw_below_drewN | apply below_drew1 | refine below_set ?_ GE189.out | refine below_set ?_ GE191.out) | exact HB.out)) hb); clear BK189; clear BK191; clear HB; have BK189 := n0_; have BK191 := n1_; have HB := n2_; clear n0_ n1_ n2_; have m0_ := Aside0.mk (blk_below (g := BM) (o := om) (by (with_reducible repeat (first | refine blk_drewN ?_ _ | refine blk_drew ?_ | refine blk_alloc ?_ _ | refine obj_far ?_ GNE189.out _ | refine obj_far ?_ GNE191.out _ | refine obj_far ?_ GNE194.out _)); exact BKM.out) hb); clear BKM; have BKM := m0_; clear m0_; (try clear hb); (try clear hb2); (try clear hk); (try clear hi); have hcz50_0 : w49.cell? ⟨gb191, 0, none⟩ = some (.string ((rd_T68 l1 x46_2).f0)) := (blk_cell BK191.out 0).trans rfl; have hcz50_1 : w49.cell? ⟨gb191, 1, none⟩ = some (.int .i64 ((rd_T68 l1 x46_2).f1)) := (blk_cell BK191.out 1).trans rfl; have hcz50_2 : w49.cell? ⟨gb191, 2, none⟩ = some (.slice A190_2 ((rd_T68 l1 x46_2).f2).length c190_2) := (blk_cell BK191.out 2).trans rfl; have hfz50_0 := blk_frozen BK191.out 0; have hfz50_1 := blk_frozen BK191.out 1; have hfz50_2 := blk_frozen BK191.out 2) | ((with_reducible refine gate_ (Op.lookup 73 (.tmp 55) (.tmp 57) false) rfl ?_); (try (refine gate_guard (by rfl) ?_; dsimp only)); refine wpList_lookup_seen rfl rfl Tryd.underlying9 Tryd.underlying73 Tryd.underlying4 (by kernel_rfl) BM x5_2 om (by (with_reducible repeat (first | refine blk_drewN ?_ _ | refine blk_drew ?_ | refine blk_alloc ?_ _ | refine obj_far ?_ GNE189.out _ | refine obj_far ?_ GNE191.out _ | refine obj_far ?_ GNE194.out _)); exact BKM.out) HS.out ((rd_T68 l1 x46_2).f0) KS.out rfl rfl ?_; (try rw [c27b0])) | ((with_reducible refine gate_ (Op.mapUpdate 73 (.tmp 82) (.tmp 84) (.const (.bool true))) rfl ?_); refine wpList_update_seen rfl rfl Tryd.underlying9 Tryd.underlying73 Tryd.underlying4 BM x5_2 om (by (with_reducible repeat (first | refine blk_drewN ?_ _ | refine blk_drew ?_ | refine blk_alloc ?_ _ | refine obj_far ?_ GNE189.out _ | refine obj_far ?_ GNE191.out _ | refine obj_far ?_ GNE194.out _)); exact BKM.out) HS.out ((rd_T68 l1 x46_2).f0) KS.out KL.out rfl rfl rfl ?_; intro wm2 hsm2 hgr2; have n0_ := Aside0.mk (pw_below_grown (by repeat (first | (with_reducible first | exact HB.out | apply below_alloc | apply pw_below_drewN | apply below_drew1 | refine below_set ?_ GE189.out | refine below_set ?_ GE191.out | refine below_set ?_ GE194.out) | exact HB.out)) (some BM) (below_size (by repeat (first | (with_reducible first | exact HB.out | apply below_alloc | apply pw_below_drewN | apply below_drew1 | refine below_set ?_ GE189.out | refine below_set ?_ GE191.out | refine below_set ?_ GE194.out) | exact HB.out))) hgr2 (fun k_ hk_ => by cases hk_; exact HBM.out)); (try (have b_ := Aside0.mk (blk_grown (g := gb189) (o := _) (by (with_reducible repeat (first | refine blk_drewN ?_ _ | refine blk_drew ?_ | refine blk_alloc ?_ _ | refine blk_put (g := gb189) ?_ _ _ rfl | refine obj_far ?_ (NB189_191.out) _ | refine obj_far ?_ (NB189_194.out) _)); exact BK189.out) hgr2 (fun e_ => GNE189.out (Option.some.inj e_).symm)); clear BK189; have BK189 := b_; clear b_)); (try (have hzm189_0 : wm2.cell? ⟨gb189, 0, none⟩ = some (.int .i64 a0_0) := (blk_cell BK189.out 0).trans rfl)); (try (have hfm189_0 := blk_frozen BK189.out 0)); (try (have hzm189_1 : wm2.cell? ⟨gb189, 1, none⟩ = some (.int .i64 a0_1) := (blk_cell BK189.out 1).trans rfl)); (try (have hfm189_1 := blk_frozen BK189.out 1)); (try (have hzm189_2 : wm2.cell? ⟨gb189, 2, none⟩ = some (.int .i64 a0_2) := (blk_cell BK189.out 2).trans rfl)); (try (have hfm189_2 := blk_frozen BK189.out 2)); (try (have b_ := Aside0.mk (blk_grown (g := gb191) (o := _) (by (with_reducible repeat (first | refine blk_drewN ?_ _ | refine blk_drew ?_ | refine blk_alloc ?_ _ | refine blk_put (g := gb191) ?_ _ _ rfl | refine obj_far ?_ (NB191_189.out) _ | refine obj_far ?_ (NB191_194.out) _)); exact BK191.out) hgr2 (fun e_ => GNE191.out (Option.some.inj e_).symm)); clear BK191; have BK191 := b_; clear b_)); (try (have hzm191_0 : wm2.cell? ⟨gb191, 0, none⟩ = some (.string ((rd_T68 l1 x46_2).f0)) := (blk_cell BK191.out 0).trans rfl)); (try (have hfm191_0 := blk_frozen BK191.out 0)); (try (have hzm191_1 : wm2.cell? ⟨gb191, 1, none⟩ = some (.int .i64 ((rd_T68 l1 x46_2).f1)) := (blk_cell BK191.out 1).trans rfl)); (try (have hfm191_1 := blk_frozen BK191.out 1)); (try (have hzm191_2 : wm2.cell? ⟨gb191, 2, none⟩ = some ((.slice A190_2 ((rd_T68 l1 x46_2).f2).length c190_2)) := (blk_cell BK191.out 2).trans rfl)); (try (have hfm191_2 := blk_frozen BK191.out 2)); (try (have b_ := Aside0.mk (blk_grown (g := gb194) (o := _) (by (with_reducible repeat (first | refine blk_drewN ?_ _ | refine blk_drew ?_ | refine blk_alloc ?_ _ | refine blk_put (g := gb194) ?_ _ _ rfl | refine obj_far ?_ (NB194_189.out) _ | refine obj_far ?_ (NB194_191.out) _)); exact BK194.out) hgr2 (fun e_ => GNE194.out (Option.some.inj e_).symm)); clear BK194; have BK194 := b_; clear b_)); clear HB; have HB := n0_; clear n0_; clear BKM HS; obtain ⟨om, hom2, hos2⟩ := hsm2; have BKM := Aside0.mk hom2; have HS := Aside0.mk hos2; clear hom2 hos2 hgr2))
               go_meet
               case rel => exact ⟨_, (decide ((((rd_T68 l1 x46_2).f2).length : Int) > 8)), (by first | rfl | (simp; done) | (simp [*]; done)), H', ⟨by have := HJ2.out; have := HK2.out; first | omega | exact Nat.le_refl _⟩, ⟨by (with_reducible repeat (first | refine blk_drewN ?_ _ | refine blk_drew ?_ | refine blk_alloc ?_ _)); exact BK189.out⟩, ⟨by (with_reducible repeat (first | refine blk_drewN ?_ _ | refine blk_drew ?_ | refine blk_alloc ?_ _)); exact BK191.out⟩, ⟨⟨_, (by (with_reducible repeat (first | refine blk_drewN ?_ _ | refine blk_drew ?_ | refine blk_alloc ?_ _ | refine obj_far ?_ GNE189.out _ | refine obj_far ?_ GNE191.out _ | refine obj_far ?_ GNE194.out _)); exact BKM.out), HS.out⟩⟩, ⟨by repeat (first | (with_reducible first | exact HB.out | apply below_alloc | apply pw_below_drewN | apply below_drew1 | refine below_set ?_ GE189.out | refine below_set ?_ GE191.out) | exact HB.out)⟩⟩
          ·replace c26 := Bool.eq_false_iff.mpr c26
           subst c26
           have H1 : (impl_ShopOK.j2 k2 x5_2 l1 (l1.length : Int) x46_2 true a0_0 a0_1 a0_2 ((rd_T68 l1 x46_2).f0) ((rd_T68 l1 x46_2).f1) ((rd_T68 l1 x46_2).f2)) = some r := by rw [if_neg (show ¬ (false = true) by decide)] at H; exact H
           clear H
           have H := H1
           clear H1
           have H' := Aside0.mk H
           clear H
           have hnb51 := NB191_189.out
           have hnc51 := NB189_191.out
           have hcz52_0 : w22.cell? ⟨gb191, 0, none⟩ = some (.string (⟨#[]⟩ : ByteArray)) := (blk_cell BK191.out 0).trans rfl
           have hcz52_1 : w22.cell? ⟨gb191, 1, none⟩ = some (.int .i64 0) := (blk_cell BK191.out 1).trans rfl
           have hcz52_2 : w22.cell? ⟨gb191, 2, none⟩ = some (.slice none 0 0) := (blk_cell BK191.out 2).trans rfl
           have hfz52_0 := blk_frozen BK191.out 0
           have hfz52_1 := blk_frozen BK191.out 1
           have hfz52_2 := blk_frozen BK191.out 2
           go_wp2_with (first | ((with_reducible refine gate_callee (f := 37) rfl ?_); refine goesL_ (some 52) rfl rfl Tryd.func37 (by kernel_rfl) rfl #[.string ((rd_T68 l1 x46_2).f0)] rfl (by (try simp only [List.map_toArray, List.map_cons, List.map_nil]); first | done | rfl | (simp only [List.length_drop, List.length_take]; rfl)) ?_; (with_reducible refine (impl_NameOK.calls k2 ((rd_T68 l1 x46_2).f0) false _ A25.out (laid_on HT0.out (by repeat (first | (with_reducible first | exact HB.out | apply below_alloc | apply pw_below_drewN | apply below_drew1 | refine below_set ?_ GE189.out | refine below_set ?_ GE191.out) | exact HB.out)))).mono ?_); rintro e w53 ⟨rfl, hb⟩; refine ⟨_, rfl, ?_⟩; have n0_ := Aside0.mk (blk_below (g := gb189) (o := .cells #[.int .i64 a0_0, .int .i64 a0_1, .int .i64 a0_2] 38 (0, 0)) (by (with_reducible repeat (first | refine blk_drewN ?_ _ | refine blk_drew ?_ | refine blk_alloc ?_ _)); refine blk_far ?_ NB189_191.out _; (with_reducible repeat (first | refine blk_drewN ?_ _ | refine blk_drew ?_ | refine blk_alloc ?_ _)); refine blk_far ?_ NB189_191.out _; (with_reducible repeat (first | refine blk_drewN ?_ _ | refine blk_drew ?_ | refine blk_alloc ?_ _)); refine blk_far ?_ NB189_191.out _; (with_reducible repeat (first | refine blk_drewN ?_ _ | refine blk_drew ?_ | refine blk_alloc ?_ _)); exact BK189.out) hb); have n1_ := Aside0.mk (blk_below (g := gb191) (o := .cells #[.string ((rd_T68 l1 x46_2).f0), .int .i64 ((rd_T68 l1 x46_2).f1), .slice A190_2 ((rd_T68 l1 x46_2).f2).length c190_2] 68 (0, 0)) (by (with_reducible repeat (first | refine blk_drewN ?_ _ | refine blk_drew ?_ | refine blk_alloc ?_ _)); refine blk_put (cs := #[.string ((rd_T68 l1 x46_2).f0), .int .i64 ((rd_T68 l1 x46_2).f1), .slice none 0 0]) ?_ 2 _ rfl; (with_reducible repeat (first | refine blk_drewN ?_ _ | refine blk_drew ?_ | refine blk_alloc ?_ _)); refine blk_put (cs := #[.string ((rd_T68 l1 x46_2).f0), .int .i64 0, .slice none 0 0]) ?_ 1 _ rfl; (with_reducible repeat (first | refine blk_drewN ?_ _ | refine blk_drew ?_ | refine blk_alloc ?_ _)); refine blk_put (cs := #[.string (⟨#[]⟩ : ByteArray), .int .i64 0, .slice none 0 0]) ?_ 0 _ rfl; (with_reducible repeat (first | refine blk_drewN ?_ _ | refine blk_drew ?_ | refine blk_alloc ?_ _)); exact BK191.out) hb); have n2_ := Aside0.mk (below_step (by repeat (first | (with_reducible first | exact HB.out | apply below_alloc | apply pw_below_drewN | apply below_drew1 | refine below_set ?_ GE189.out | refine below_set ?_ GE191.out) | exact HB.out)) hb); clear BK189; clear BK191; clear HB; have BK189 := n0_; have BK191 := n1_; have HB := n2_; clear n0_ n1_ n2_; have m0_ := Aside0.mk (blk_below (g := BM) (o := om) (by (with_reducible repeat (first | refine blk_drewN ?_ _ | refine blk_drew ?_ | refine blk_alloc ?_ _ | refine obj_far ?_ GNE189.out _ | refine obj_far ?_ GNE191.out _ | refine obj_far ?_ GNE194.out _)); exact BKM.out) hb); clear BKM; have BKM := m0_; clear m0_; (try clear hb); (try clear hb2); (try clear hk); (try clear hi)) | ((with_reducible refine gate_ (Op.lookup 73 (.tmp 55) (.tmp 57) false) rfl ?_); (try (refine gate_guard (by rfl) ?_; dsimp only)); refine wpList_lookup_seen rfl rfl Tryd.underlying9 Tryd.underlying73 Tryd.underlying4 (by kernel_rfl) BM x5_2 om (by (with_reducible repeat (first | refine blk_drewN ?_ _ | refine blk_drew ?_ | refine blk_alloc ?_ _ | refine obj_far ?_ GNE189.out _ | refine obj_far ?_ GNE191.out _ | refine obj_far ?_ GNE194.out _)); exact BKM.out) HS.out ((rd_T68 l1 x46_2).f0) KS.out rfl rfl ?_; (try rw [c27b0])) | ((with_reducible refine gate_ (Op.mapUpdate 73 (.tmp 82) (.tmp 84) (.const (.bool true))) rfl ?_); refine wpList_update_seen rfl rfl Tryd.underlying9 Tryd.underlying73 Tryd.underlying4 BM x5_2 om (by (with_reducible repeat (first | refine blk_drewN ?_ _ | refine blk_drew ?_ | refine blk_alloc ?_ _ | refine obj_far ?_ GNE189.out _ | refine obj_far ?_ GNE191.out _ | refine obj_far ?_ GNE194.out _)); exact BKM.out) HS.out ((rd_T68 l1 x46_2).f0) KS.out KL.out rfl rfl rfl ?_; intro wm2 hsm2 hgr2; have n0_ := Aside0.mk (pw_below_grown (by repeat (first | (with_reducible first | exact HB.out | apply below_alloc | apply pw_below_drewN | apply below_drew1 | refine below_set ?_ GE189.out | refine below_set ?_ GE191.out | refine below_set ?_ GE194.out) | exact HB.out)) (some BM) (below_size (by repeat (first | (with_reducible first | exact HB.out | apply below_alloc | apply pw_below_drewN | apply below_drew1 | refine below_set ?_ GE189.out | refine below_set ?_ GE191.out | refine below_set ?_ GE194.out) | exact HB.out))) hgr2 (fun k_ hk_ => by cases hk_; exact HBM.out)); (try (have b_ := Aside0.mk (blk_grown (g := gb189) (o := _) (by (with_reducible repeat (first | refine blk_drewN ?_ _ | refine blk_drew ?_ | refine blk_alloc ?_ _ | refine blk_put (g := gb189) ?_ _ _ rfl | refine obj_far ?_ (NB189_191.out) _ | refine obj_far ?_ (NB189_194.out) _)); exact BK189.out) hgr2 (fun e_ => GNE189.out (Option.some.inj e_).symm)); clear BK189; have BK189 := b_; clear b_)); (try (have hzm189_0 : wm2.cell? ⟨gb189, 0, none⟩ = some (.int .i64 a0_0) := (blk_cell BK189.out 0).trans rfl)); (try (have hfm189_0 := blk_frozen BK189.out 0)); (try (have hzm189_1 : wm2.cell? ⟨gb189, 1, none⟩ = some (.int .i64 a0_1) := (blk_cell BK189.out 1).trans rfl)); (try (have hfm189_1 := blk_frozen BK189.out 1)); (try (have hzm189_2 : wm2.cell? ⟨gb189, 2, none⟩ = some (.int .i64 a0_2) := (blk_cell BK189.out 2).trans rfl)); (try (have hfm189_2 := blk_frozen BK189.out 2)); (try (have b_ := Aside0.mk (blk_grown (g := gb191) (o := _) (by (with_reducible repeat (first | refine blk_drewN ?_ _ | refine blk_drew ?_ | refine blk_alloc ?_ _ | refine blk_put (g := gb191) ?_ _ _ rfl | refine obj_far ?_ (NB191_189.out) _ | refine obj_far ?_ (NB191_194.out) _)); exact BK191.out) hgr2 (fun e_ => GNE191.out (Option.some.inj e_).symm)); clear BK191; have BK191 := b_; clear b_)); (try (have hzm191_0 : wm2.cell? ⟨gb191, 0, none⟩ = some (.string ((rd_T68 l1 x46_2).f0)) := (blk_cell BK191.out 0).trans rfl)); (try (have hfm191_0 := blk_frozen BK191.out 0)); (try (have hzm191_1 : wm2.cell? ⟨gb191, 1, none⟩ = some (.int .i64 ((rd_T68 l1 x46_2).f1)) := (blk_cell BK191.out 1).trans rfl)); (try (have hfm191_1 := blk_frozen BK191.out 1)); (try (have hzm191_2 : wm2.cell? ⟨gb191, 2, none⟩ = some ((.slice A190_2 ((rd_T68 l1 x46_2).f2).length c190_2)) := (blk_cell BK191.out 2).trans rfl)); (try (have hfm191_2 := blk_frozen BK191.out 2)); (try (have b_ := Aside0.mk (blk_grown (g := gb194) (o := _) (by (with_reducible repeat (first | refine blk_drewN ?_ _ | refine blk_drew ?_ | refine blk_alloc ?_ _ | refine blk_put (g := gb194) ?_ _ _ rfl | refine obj_far ?_ (NB194_189.out) _ | refine obj_far ?_ (NB194_191.out) _)); exact BK194.out) hgr2 (fun e_ => GNE194.out (Option.some.inj e_).symm)); clear BK194; have BK194 := b_; clear b_)); clear HB; have HB := n0_; clear n0_; clear BKM HS; obtain ⟨om, hom2, hos2⟩ := hsm2; have BKM := Aside0.mk hom2; have HS := Aside0.mk hos2; clear hom2 hos2 hgr2))
           go_meet
           case rel => exact ⟨_, (true), (by first | rfl | (simp; done) | (simp [*]; done)), H', ⟨by have := HJ2.out; have := HK2.out; first | omega | exact Nat.le_refl _⟩, ⟨by (with_reducible repeat (first | refine blk_drewN ?_ _ | refine blk_drew ?_ | refine blk_alloc ?_ _)); exact BK189.out⟩, ⟨by (with_reducible repeat (first | refine blk_drewN ?_ _ | refine blk_drew ?_ | refine blk_alloc ?_ _)); exact BK191.out⟩, ⟨⟨_, (by (with_reducible repeat (first | refine blk_drewN ?_ _ | refine blk_drew ?_ | refine blk_alloc ?_ _ | refine obj_far ?_ GNE189.out _ | refine obj_far ?_ GNE191.out _ | refine obj_far ?_ GNE194.out _)); exact BKM.out), HS.out⟩⟩, ⟨by repeat (first | (with_reducible first | exact HB.out | apply below_alloc | apply pw_below_drewN | apply below_drew1 | refine below_set ?_ GE189.out | refine below_set ?_ GE191.out) | exact HB.out)⟩⟩
         case rest =>
          clear HC21
          try clear c1
          try clear p1
          try clear q1
          try clear hx1
          try clear c2
          try clear p2
          try clear c3
          try clear c4
          try clear c5
          try clear c5b0
          try clear c5b1
          try clear c6
          try clear c6b0
          try clear c8
          try clear c8b0
          try clear c10
          try clear c10b0
          try clear c12
          try clear c12b0
          try clear c14
          try clear c14b0
          try clear c17
          try clear c18
          try clear c18b0
          try clear c19
          try clear c19b0
          try clear p19
          try clear q19
          try clear hx19
          try clear c20
          try clear c20b0
          try clear c23
          try clear c26
          try clear c27
          try clear c27b0
          try clear c28
          try clear c32
          try clear c32b0
          try clear c33
          try clear c37
          try clear c37b0
          try clear c38
          try clear c42
          try clear c42b0
          try clear c42b1
          try clear c43
          try clear c47
          try clear c51
          try clear hcz11_0
          try clear hcz11_1
          try clear hcz11_2
          try clear hcz13_0
          try clear hcz13_1
          try clear hcz13_2
          try clear hcz15_0
          try clear hcz15_1
          try clear hcz15_2
          try clear hcz16_0
          try clear hcz16_1
          try clear hcz16_2
          try clear hcz24_0
          try clear hcz24_1
          try clear hcz24_2
          try clear hcz29_0
          try clear hcz29_1
          try clear hcz29_2
          try clear hcz31_0
          try clear hcz31_1
          try clear hcz31_2
          try clear hcz34_0
          try clear hcz34_1
          try clear hcz34_2
          try clear hcz36_0
          try clear hcz36_1
          try clear hcz36_2
          try clear hcz39_0
          try clear hcz39_1
          try clear hcz39_2
          try clear hcz41_0
          try clear hcz41_1
          try clear hcz41_2
          try clear hcz44_0
          try clear hcz44_1
          try clear hcz44_2
          try clear hcz46_0
          try clear hcz46_1
          try clear hcz46_2
          try clear hcz48_0
          try clear hcz48_1
          try clear hcz48_2
          try clear hcz50_0
          try clear hcz50_1
          try clear hcz50_2
          try clear hcz52_0
          try clear hcz52_1
          try clear hcz52_2
          try clear hcz7_0
          try clear hcz7_1
          try clear hcz7_2
          try clear hcz9_0
          try clear hcz9_1
          try clear hcz9_2
          try clear hfz11_0
          try clear hfz11_1
          try clear hfz11_2
          try clear hfz13_0
          try clear hfz13_1
          try clear hfz13_2
          try clear hfz15_0
          try clear hfz15_1
          try clear hfz15_2
          try clear hfz16_0
          try clear hfz16_1
          try clear hfz16_2
          try clear hfz24_0
          try clear hfz24_1
          try clear hfz24_2
          try clear hfz29_0
          try clear hfz29_1
          try clear hfz29_2
          try clear hfz31_0
          try clear hfz31_1
          try clear hfz31_2
          try clear hfz34_0
          try clear hfz34_1
          try clear hfz34_2
          try clear hfz36_0
          try clear hfz36_1
          try clear hfz36_2
          try clear hfz39_0
          try clear hfz39_1
          try clear hfz39_2
          try clear hfz41_0
          try clear hfz41_1
          try clear hfz41_2
          try clear hfz44_0
          try clear hfz44_1
          try clear hfz44_2
          try clear hfz46_0
          try clear hfz46_1
          try clear hfz46_2
          try clear hfz48_0
          try clear hfz48_1
          try clear hfz48_2
          try clear hfz50_0
          try clear hfz50_1
          try clear hfz50_2
          try clear hfz52_0
          try clear hfz52_1
          try clear hfz52_2
          try clear hfz7_0
          try clear hfz7_1
          try clear hfz7_2
          try clear hfz9_0
          try clear hfz9_1
          try clear hfz9_2
          try clear hx190_0
          try clear hx190_1
          try clear hx190_2
          try clear p190
          try clear p2
          try clear q190
          obtain ⟨kq, x81_20, rfl, HA, HJ20, BK189, BK191, HMI, HB⟩ := hcut
          obtain ⟨om, hom, hos⟩ := HMI.out
          have BKM := Aside0.mk hom
          have HS := Aside0.mk hos
          clear hom hos HMI
          cases kq with
          | zero => exact absurd HA.out (by simp [impl_ShopOK.j2])
          | succ kj20 =>
           have H := HA.out
           clear HA
           simp only [impl_ShopOK.j2] at H
           by_cases c54 : x81_20 = true
           ·subst c54
            have H1 : (some false) = some r := by rw [if_pos rfl] at H; exact H
            clear H
            have H := H1
            clear H1
            obtain rfl := Option.some.inj H
            go_wp2
            go_ret
            exact ⟨by first | rfl | (simp [errW_none, errW_some] <;> rfl) | (simp [*, errW_none, errW_some] <;> rfl), by repeat (first | (with_reducible first | exact HB.out | apply below_alloc | apply pw_below_drewN | apply below_drew1 | refine below_set ?_ GE189.out | refine below_set ?_ GE191.out) | exact HB.out)⟩
           ·replace c54 := Bool.eq_false_iff.mpr c54
            subst c54
            have H1 : (if ((rd_T68 l1 x46_2).f0).size ≤ 40 then (if x5_2.length < 1000 then (impl_ShopOK.l1 kj20 (x5_2 ++ [((rd_T68 l1 x46_2).f0)]) l1 (l1.length : Int) x46_2 ((rd_T68 l1 x46_2).f2) (((rd_T68 l1 x46_2).f2).length : Int) 0 a0_0 a0_1 a0_2) else (none)) else (none)) = some r := by rw [if_neg (show ¬ (false = true) by decide)] at H; exact H
            clear H
            have H := H1
            clear H1
            have cKs : ((rd_T68 l1 x46_2).f0).size ≤ 40 := Decidable.byContradiction fun hn_ => by rw [if_neg hn_] at H; exact absurd H (by simp)
            rw [if_pos cKs] at H
            have cKl : x5_2.length < 1000 := Decidable.byContradiction fun hn_ => by rw [if_neg hn_] at H; exact absurd H (by simp)
            rw [if_pos cKl] at H
            have KS := Aside0.mk cKs
            have KL := Aside0.mk cKl
            clear cKs cKl
            have H' := Aside0.mk H
            clear H
            have hnb55 := NB191_189.out
            have hnc55 := NB189_191.out
            have hcz56_0 : wc.cell? ⟨gb191, 0, none⟩ = some (.string ((rd_T68 l1 x46_2).f0)) := (blk_cell BK191.out 0).trans rfl
            have hcz56_1 : wc.cell? ⟨gb191, 1, none⟩ = some (.int .i64 ((rd_T68 l1 x46_2).f1)) := (blk_cell BK191.out 1).trans rfl
            have hcz56_2 : wc.cell? ⟨gb191, 2, none⟩ = some (.slice A190_2 ((rd_T68 l1 x46_2).f2).length c190_2) := (blk_cell BK191.out 2).trans rfl
            have hfz56_0 := blk_frozen BK191.out 0
            have hfz56_1 := blk_frozen BK191.out 1
            have hfz56_2 := blk_frozen BK191.out 2
            go_wp2_with (first | ((with_reducible refine gate_ (Op.lookup 73 (.tmp 55) (.tmp 57) false) rfl ?_); (try (refine gate_guard (by rfl) ?_; dsimp only)); refine wpList_lookup_seen rfl rfl Tryd.underlying9 Tryd.underlying73 Tryd.underlying4 (by kernel_rfl) BM x5_2 om (by (with_reducible repeat (first | refine blk_drewN ?_ _ | refine blk_drew ?_ | refine blk_alloc ?_ _ | refine obj_far ?_ GNE189.out _ | refine obj_far ?_ GNE191.out _ | refine obj_far ?_ GNE194.out _)); exact BKM.out) HS.out ((rd_T68 l1 x46_2).f0) KS.out rfl rfl ?_; (try rw [c27b0])) | ((with_reducible refine gate_ (Op.mapUpdate 73 (.tmp 82) (.tmp 84) (.const (.bool true))) rfl ?_); refine wpList_update_seen rfl rfl Tryd.underlying9 Tryd.underlying73 Tryd.underlying4 BM x5_2 om (by (with_reducible repeat (first | refine blk_drewN ?_ _ | refine blk_drew ?_ | refine blk_alloc ?_ _ | refine obj_far ?_ GNE189.out _ | refine obj_far ?_ GNE191.out _ | refine obj_far ?_ GNE194.out _)); exact BKM.out) HS.out ((rd_T68 l1 x46_2).f0) KS.out KL.out rfl rfl rfl ?_; intro wm2 hsm2 hgr2; have n0_ := Aside0.mk (pw_below_grown (by repeat (first | (with_reducible first | exact HB.out | apply below_alloc | apply pw_below_drewN | apply below_drew1 | refine below_set ?_ GE189.out | refine below_set ?_ GE191.out | refine below_set ?_ GE194.out) | exact HB.out)) (some BM) (below_size (by repeat (first | (with_reducible first | exact HB.out | apply below_alloc | apply pw_below_drewN | apply below_drew1 | refine below_set ?_ GE189.out | refine below_set ?_ GE191.out | refine below_set ?_ GE194.out) | exact HB.out))) hgr2 (fun k_ hk_ => by cases hk_; exact HBM.out)); (try (have b_ := Aside0.mk (blk_grown (g := gb189) (o := _) (by (with_reducible repeat (first | refine blk_drewN ?_ _ | refine blk_drew ?_ | refine blk_alloc ?_ _ | refine blk_put (g := gb189) ?_ _ _ rfl | refine obj_far ?_ (NB189_191.out) _ | refine obj_far ?_ (NB189_194.out) _)); exact BK189.out) hgr2 (fun e_ => GNE189.out (Option.some.inj e_).symm)); clear BK189; have BK189 := b_; clear b_)); (try (have hzm189_0 : wm2.cell? ⟨gb189, 0, none⟩ = some (.int .i64 a0_0) := (blk_cell BK189.out 0).trans rfl)); (try (have hfm189_0 := blk_frozen BK189.out 0)); (try (have hzm189_1 : wm2.cell? ⟨gb189, 1, none⟩ = some (.int .i64 a0_1) := (blk_cell BK189.out 1).trans rfl)); (try (have hfm189_1 := blk_frozen BK189.out 1)); (try (have hzm189_2 : wm2.cell? ⟨gb189, 2, none⟩ = some (.int .i64 a0_2) := (blk_cell BK189.out 2).trans rfl)); (try (have hfm189_2 := blk_frozen BK189.out 2)); (try (have b_ := Aside0.mk (blk_grown (g := gb191) (o := _) (by (with_reducible repeat (first | refine blk_drewN ?_ _ | refine blk_drew ?_ | refine blk_alloc ?_ _ | refine blk_put (g := gb191) ?_ _ _ rfl | refine obj_far ?_ (NB191_189.out) _ | refine obj_far ?_ (NB191_194.out) _)); exact BK191.out) hgr2 (fun e_ => GNE191.out (Option.some.inj e_).symm)); clear BK191; have BK191 := b_; clear b_)); (try (have hzm191_0 : wm2.cell? ⟨gb191, 0, none⟩ = some (.string ((rd_T68 l1 x46_2).f0)) := (blk_cell BK191.out 0).trans rfl)); (try (have hfm191_0 := blk_frozen BK191.out 0)); (try (have hzm191_1 : wm2.cell? ⟨gb191, 1, none⟩ = some (.int .i64 ((rd_T68 l1 x46_2).f1)) := (blk_cell BK191.out 1).trans rfl)); (try (have hfm191_1 := blk_frozen BK191.out 1)); (try (have hzm191_2 : wm2.cell? ⟨gb191, 2, none⟩ = some ((.slice A190_2 ((rd_T68 l1 x46_2).f2).length c190_2)) := (blk_cell BK191.out 2).trans rfl)); (try (have hfm191_2 := blk_frozen BK191.out 2)); (try (have b_ := Aside0.mk (blk_grown (g := gb194) (o := _) (by (with_reducible repeat (first | refine blk_drewN ?_ _ | refine blk_drew ?_ | refine blk_alloc ?_ _ | refine blk_put (g := gb194) ?_ _ _ rfl | refine obj_far ?_ (NB194_189.out) _ | refine obj_far ?_ (NB194_191.out) _)); exact BK194.out) hgr2 (fun e_ => GNE194.out (Option.some.inj e_).symm)); clear BK194; have BK194 := b_; clear b_)); clear HB; have HB := n0_; clear n0_; clear BKM HS; obtain ⟨om, hom2, hos2⟩ := hsm2; have BKM := Aside0.mk hom2; have HS := Aside0.mk hos2; clear hom2 hos2 hgr2))
            go_loopg [88] kj20 (fun kq v88 w' => ∃ (x88_4 : Int), v88 = .int .i64 x88_4 ∧ Aside0 (impl_ShopOK.l1 kq (x5_2 ++ [((rd_T68 l1 x46_2).f0)]) l1 (l1.length : Int) x46_2 ((rd_T68 l1 x46_2).f2) (((rd_T68 l1 x46_2).f2).length : Int) x88_4 a0_0 a0_1 a0_2 = some r) ∧ Aside0 (kq ≤ kj20) ∧ Aside0 (w'.heap[gb189]? = some (.cells #[.int .i64 a0_0, .int .i64 a0_1, .int .i64 a0_2] 38 (0, 0))) ∧ Aside0 (w'.heap[gb191]? = some (.cells #[.string ((rd_T68 l1 x46_2).f0), .int .i64 ((rd_T68 l1 x46_2).f1), (.slice A190_2 ((rd_T68 l1 x46_2).f2).length c190_2)] 68 (0, 0))) ∧ Aside0 (SeenAt Tryd.prog 9 4 BM (x5_2 ++ [((rd_T68 l1 x46_2).f0)]) w') ∧ Aside0 (Below w.heap.size w w'))
            case atStart => exact ⟨(0), (by first | rfl | (simp; done) | (simp [*]; done)), H', ⟨Nat.le_refl _⟩, ⟨by (with_reducible repeat (first | refine blk_drewN ?_ _ | refine blk_drew ?_ | refine blk_alloc ?_ _)); exact BK189.out⟩, ⟨by (with_reducible repeat (first | refine blk_drewN ?_ _ | refine blk_drew ?_ | refine blk_alloc ?_ _)); exact BK191.out⟩, ⟨⟨_, (by (with_reducible repeat (first | refine blk_drewN ?_ _ | refine blk_drew ?_ | refine blk_alloc ?_ _ | refine obj_far ?_ GNE189.out _ | refine obj_far ?_ GNE191.out _ | refine obj_far ?_ GNE194.out _)); exact BKM.out), HS.out⟩⟩, ⟨by repeat (first | (with_reducible first | exact HB.out | apply below_alloc | apply pw_below_drewN | apply below_drew1 | refine below_set ?_ GE189.out | refine below_set ?_ GE191.out) | exact HB.out)⟩⟩
            case round =>
             clear H'
             try clear c1
             try clear p1
             try clear q1
             try clear hx1
             try clear c2
             try clear p2
             try clear c3
             try clear c4
             try clear c5
             try clear c5b0
             try clear c5b1
             try clear c6
             try clear c6b0
             try clear p6
             try clear c8
             try clear c8b0
             try clear c10
             try clear c10b0
             try clear c12
             try clear c12b0
             try clear c14
             try clear c14b0
             try clear c17
             try clear c18
             try clear c18b0
             try clear c19
             try clear c19b0
             try clear p19
             try clear q19
             try clear hx19
             try clear c20
             try clear c20b0
             try clear c23
             try clear c26
             try clear c27
             try clear c27b0
             try clear c28
             try clear c32
             try clear c32b0
             try clear c33
             try clear c37
             try clear c37b0
             try clear c38
             try clear c42
             try clear c42b0
             try clear c42b1
             try clear c43
             try clear c47
             try clear c51
             try clear c54
             try clear c55
             try clear hcz11_0
             try clear hcz11_1
             try clear hcz11_2
             try clear hcz13_0
             try clear hcz13_1
             try clear hcz13_2
             try clear hcz15_0
             try clear hcz15_1
             try clear hcz15_2
             try clear hcz16_0
             try clear hcz16_1
             try clear hcz16_2
             try clear hcz24_0
             try clear hcz24_1
             try clear hcz24_2
             try clear hcz29_0
             try clear hcz29_1
             try clear hcz29_2
             try clear hcz31_0
             try clear hcz31_1
             try clear hcz31_2
             try clear hcz34_0
             try clear hcz34_1
             try clear hcz34_2
             try clear hcz36_0
             try clear hcz36_1
             try clear hcz36_2
             try clear hcz39_0
             try clear hcz39_1
             try clear hcz39_2
             try clear hcz41_0
             try clear hcz41_1
             try clear hcz41_2
             try clear hcz44_0
             try clear hcz44_1
             try clear hcz44_2
             try clear hcz46_0
             try clear hcz46_1
             try clear hcz46_2
             try clear hcz48_0
             try clear hcz48_1
             try clear hcz48_2
             try clear hcz50_0
             try clear hcz50_1
             try clear hcz50_2
             try clear hcz52_0
             try clear hcz52_1
             try clear hcz52_2
             try clear hcz56_0
             try clear hcz56_1
             try clear hcz56_2
             try clear hcz7_0
             try clear hcz7_1
             try clear hcz7_2
             try clear hcz9_0
             try clear hcz9_1
             try clear hcz9_2
             try clear hfz11_0
             try clear hfz11_1
             try clear hfz11_2
             try clear hfz13_0
             try clear hfz13_1
             try clear hfz13_2
             try clear hfz15_0
             try clear hfz15_1
             try clear hfz15_2
             try clear hfz16_0
             try clear hfz16_1
             try clear hfz16_2
             try clear hfz24_0
             try clear hfz24_1
             try clear hfz24_2
             try clear hfz29_0
             try clear hfz29_1
             try clear hfz29_2
             try clear hfz31_0
             try clear hfz31_1
             try clear hfz31_2
             try clear hfz34_0
             try clear hfz34_1
             try clear hfz34_2
             try clear hfz36_0
             try clear hfz36_1
             try clear hfz36_2
             try clear hfz39_0
             try clear hfz39_1
             try clear hfz39_2
             try clear hfz41_0
             try clear hfz41_1
             try clear hfz41_2
             try clear hfz44_0
             try clear hfz44_1
             try clear hfz44_2
             try clear hfz46_0
             try clear hfz46_1
             try clear hfz46_2
             try clear hfz48_0
             try clear hfz48_1
             try clear hfz48_2
             try clear hfz50_0
             try clear hfz50_1
             try clear hfz50_2
             try clear hfz52_0
             try clear hfz52_1
             try clear hfz52_2
             try clear hfz56_0
             try clear hfz56_1
             try clear hfz56_2
             try clear hfz7_0
             try clear hfz7_1
             try clear hfz7_2
             try clear hfz9_0
             try clear hfz9_1
             try clear hfz9_2
             try clear hx190_0
             try clear hx190_1
             try clear hx190_2
             try clear p1
             try clear p19
             try clear p190
             try clear p2
             try clear q1
             try clear q19
             try clear q190
             obtain ⟨x88_4, rfl, HA, HK4, BK189, BK191, HMI, HB⟩ := hrel
             obtain ⟨om, hom, hos⟩ := HMI.out
             have BKM := Aside0.mk hom
             have HS := Aside0.mk hos
             clear hom hos HMI
             cases gk with
             | zero => exact absurd HA.out (by simp [impl_ShopOK.l1])
             | succ k4 =>
              have H := HA.out
              clear HA
              simp only [impl_ShopOK.l1] at H
              by_cases c57 : x88_4 < (((rd_T68 l1 x46_2).f2).length : Int)
              ·rw [if_pos c57] at H
               have c57b0 : decide (x88_4 < (((rd_T68 l1 x46_2).f2).length : Int)) = true := decide_eq_true c57
               clear c57
               by_cases c58 : 0 ≤ x88_4
               ·rw [if_pos c58] at H
                have c58b0 : decide (0 ≤ x88_4) = true := decide_eq_true c58
                clear c58
                by_cases c59 : x88_4 < (((rd_T68 l1 x46_2).f2).length : Int)
                ·rw [if_pos c59] at H
                 have c59b0 : decide (x88_4 < (((rd_T68 l1 x46_2).f2).length : Int)) = true := decide_eq_true c59
                 clear c59
                 by_cases c60 : ((rd_T71 ((rd_T68 l1 x46_2).f2) x88_4).f0) < 0
                 ·rw [if_pos c60] at H
                  have c60b0 : decide (((rd_T71 ((rd_T68 l1 x46_2).f2) x88_4).f0) < 0) = true := decide_eq_true c60
                  clear c60
                  obtain rfl := Option.some.inj H
                  have p193 : 0 ≤ (x88_4 : Int) := of_decide_eq_true (by first | (with_reducible assumption) | assumption)
                  have q193 : x88_4 < (((rd_T68 l1 x46_2).f2).length : Int) := of_decide_eq_true (by first | (with_reducible assumption) | assumption)
                  obtain ⟨ad193, e193, hx193_0, hx193_1, hx193_2, hx193_3⟩ := at_T71 HR190_2.out x88_4 p193 q193
                  cases e193
                  replace hx193_0 := (HB.out.cell (World.block_lt_of_cell? w _ hx193_0)).trans hx193_0
                  replace hx193_1 := (HB.out.cell (World.block_lt_of_cell? w _ hx193_1)).trans hx193_1
                  replace hx193_2 := (HB.out.cell (World.block_lt_of_cell? w _ hx193_2)).trans hx193_2
                  replace hx193_3 := (HB.out.cell (World.block_lt_of_cell? w _ hx193_3)).trans hx193_3
                  replace p193 := eq_true p193
                  replace q193 := eq_true q193
                  go_wp2_with (first | ((with_reducible refine gate_dst (N := 9) rfl ?_); (try (refine gate_guard (by rfl) ?_; dsimp only)); refine box_event ?hg (N := 9) ?hd (cs := #[.int .i64 0, .int .i64 0, .int .i64 0, .int .i64 0]) (t := 71) ?hr ?_; (case hd => rfl); (case hg => rfl); (case hr => first | (go_simp; done) | (go_simp; rfl)); intro gb194 hg w61 hbox hb; have n0_ := Aside0.mk (blk_below (g := gb189) (o := .cells #[.int .i64 a0_0, .int .i64 a0_1, .int .i64 a0_2] 38 (0, 0)) (by (with_reducible repeat (first | refine blk_drewN ?_ _ | refine blk_drew ?_ | refine blk_alloc ?_ _)); exact BK189.out) hb); have n1_ := Aside0.mk (blk_below (g := gb191) (o := .cells #[.string ((rd_T68 l1 x46_2).f0), .int .i64 ((rd_T68 l1 x46_2).f1), .slice (some ad193) ((rd_T68 l1 x46_2).f2).length c190_2] 68 (0, 0)) (by (with_reducible repeat (first | refine blk_drewN ?_ _ | refine blk_drew ?_ | refine blk_alloc ?_ _)); exact BK191.out) hb); have n2_ := Aside0.mk (below_step (by repeat (first | (with_reducible first | exact HB.out | apply below_alloc | apply pw_below_drewN | apply below_drew1 | refine below_set ?_ GE189.out | refine below_set ?_ GE191.out) | exact HB.out)) hb); have n3_ := Aside0.mk (hbox); have n4_ := Aside0.mk ((by rw [hg]; exact (below_size (by repeat (first | (with_reducible first | exact HB.out | apply below_alloc | apply pw_below_drewN | apply below_drew1 | refine below_set ?_ GE189.out | refine below_set ?_ GE191.out) | exact HB.out))) : w.heap.size ≤ gb194)); have n5_ := Aside0.mk ((by rw [hg]; exact (below_size (by repeat (first | (with_reducible first | exact HB.out | apply below_alloc | apply pw_below_drewN | apply below_drew1 | refine below_set ?_ GE189.out | refine below_set ?_ GE191.out) | exact HB.out))) : w.heap.size ≤ gb194)); have n6_ := Aside0.mk ((by rw [hg]; exact Nat.ne_of_lt (blk_lt (g := gb189) (o := .cells #[.int .i64 a0_0, .int .i64 a0_1, .int .i64 a0_2] 38 (0, 0)) (by (with_reducible repeat (first | refine blk_drewN ?_ _ | refine blk_drew ?_ | refine blk_alloc ?_ _)); exact BK189.out)) : gb189 ≠ gb194)); have n7_ := Aside0.mk ((by rw [hg]; exact Nat.ne_of_gt (blk_lt (g := gb189) (o := .cells #[.int .i64 a0_0, .int .i64 a0_1, .int .i64 a0_2] 38 (0, 0)) (by (with_reducible repeat (first | refine blk_drewN ?_ _ | refine blk_drew ?_ | refine blk_alloc ?_ _)); exact BK189.out)) : gb194 ≠ gb189)); have n8_ := Aside0.mk ((by rw [hg]; exact Nat.ne_of_lt (blk_lt (g := gb191) (o := .cells #[.string ((rd_T68 l1 x46_2).f0), .int .i64 ((rd_T68 l1 x46_2).f1), .slice (some ad193) ((rd_T68 l1 x46_2).f2).length c190_2] 68 (0, 0)) (by (with_reducible repeat (first | refine blk_drewN ?_ _ | refine blk_drew ?_ | refine blk_alloc ?_ _)); exact BK191.out)) : gb191 ≠ gb194)); have n9_ := Aside0.mk ((by rw [hg]; exact Nat.ne_of_gt (blk_lt (g := gb191) (o := .cells #[.string ((rd_T68 l1 x46_2).f0), .int .i64 ((rd_T68 l1 x46_2).f1), .slice (some ad193) ((rd_T68 l1 x46_2).f2).length c190_2] 68 (0, 0)) (by (with_reducible repeat (first | refine blk_drewN ?_ _ | refine blk_drew ?_ | refine blk_alloc ?_ _)); exact BK191.out)) : gb194 ≠ gb191)); clear BK189; clear BK191; clear HB; have BK189 := n0_; have BK191 := n1_; have HB := n2_; have BK194 := n3_; have GW194 := n4_; have GE194 := n5_; have NB189_194 := n6_; have NB194_189 := n7_; have NB191_194 := n8_; have NB194_191 := n9_; clear n0_ n1_ n2_ n3_ n4_ n5_ n6_ n7_ n8_ n9_; have m0_ := Aside0.mk (blk_below (g := BM) (o := om) (by (with_reducible repeat (first | refine blk_drewN ?_ _ | refine blk_drew ?_ | refine blk_alloc ?_ _ | refine obj_far ?_ GNE189.out _ | refine obj_far ?_ GNE191.out _ | refine obj_far ?_ GNE194.out _)); exact BKM.out) hb); have m1_ := Aside0.mk (show BM ≠ gb194 from Nat.ne_of_lt (by rw [hg]; exact blk_lt (o := om) (by (with_reducible repeat (first | refine blk_drewN ?_ _ | refine blk_drew ?_ | refine blk_alloc ?_ _ | refine obj_far ?_ GNE189.out _ | refine obj_far ?_ GNE191.out _ | refine obj_far ?_ GNE194.out _)); exact BKM.out))); clear BKM; have BKM := m0_; have GNE194 := m1_; clear m0_ m1_; clear hb hbox hg; have hnb62 := NB194_189.out; have hnc62 := NB189_194.out; have hnb63 := NB194_191.out; have hnc63 := NB191_194.out; have hcz64_0 : w61.cell? ⟨gb194, 0, none⟩ = some (.int .i64 0) := (blk_cell BK194.out 0).trans rfl; have hcz64_1 : w61.cell? ⟨gb194, 1, none⟩ = some (.int .i64 0) := (blk_cell BK194.out 1).trans rfl; have hcz64_2 : w61.cell? ⟨gb194, 2, none⟩ = some (.int .i64 0) := (blk_cell BK194.out 2).trans rfl; have hcz64_3 : w61.cell? ⟨gb194, 3, none⟩ = some (.int .i64 0) := (blk_cell BK194.out 3).trans rfl; have hfz64_0 := blk_frozen BK194.out 0; have hfz64_1 := blk_frozen BK194.out 1; have hfz64_2 := blk_frozen BK194.out 2; have hfz64_3 := blk_frozen BK194.out 3) | ((with_reducible refine gate_ (Op.lookup 73 (.tmp 55) (.tmp 57) false) rfl ?_); (try (refine gate_guard (by rfl) ?_; dsimp only)); refine wpList_lookup_seen rfl rfl Tryd.underlying9 Tryd.underlying73 Tryd.underlying4 (by kernel_rfl) BM x5_2 om (by (with_reducible repeat (first | refine blk_drewN ?_ _ | refine blk_drew ?_ | refine blk_alloc ?_ _ | refine obj_far ?_ GNE189.out _ | refine obj_far ?_ GNE191.out _ | refine obj_far ?_ GNE194.out _)); exact BKM.out) HS.out ((rd_T68 l1 x46_2).f0) KS.out rfl rfl ?_; (try rw [c27b0])) | ((with_reducible refine gate_ (Op.mapUpdate 73 (.tmp 82) (.tmp 84) (.const (.bool true))) rfl ?_); refine wpList_update_seen rfl rfl Tryd.underlying9 Tryd.underlying73 Tryd.underlying4 BM x5_2 om (by (with_reducible repeat (first | refine blk_drewN ?_ _ | refine blk_drew ?_ | refine blk_alloc ?_ _ | refine obj_far ?_ GNE189.out _ | refine obj_far ?_ GNE191.out _ | refine obj_far ?_ GNE194.out _)); exact BKM.out) HS.out ((rd_T68 l1 x46_2).f0) KS.out KL.out rfl rfl rfl ?_; intro wm2 hsm2 hgr2; have n0_ := Aside0.mk (pw_below_grown (by repeat (first | (with_reducible first | exact HB.out | apply below_alloc | apply pw_below_drewN | apply below_drew1 | refine below_set ?_ GE189.out | refine below_set ?_ GE191.out | refine below_set ?_ GE194.out) | exact HB.out)) (some BM) (below_size (by repeat (first | (with_reducible first | exact HB.out | apply below_alloc | apply pw_below_drewN | apply below_drew1 | refine below_set ?_ GE189.out | refine below_set ?_ GE191.out | refine below_set ?_ GE194.out) | exact HB.out))) hgr2 (fun k_ hk_ => by cases hk_; exact HBM.out)); (try (have b_ := Aside0.mk (blk_grown (g := gb189) (o := _) (by (with_reducible repeat (first | refine blk_drewN ?_ _ | refine blk_drew ?_ | refine blk_alloc ?_ _ | refine blk_put (g := gb189) ?_ _ _ rfl | refine obj_far ?_ (NB189_191.out) _ | refine obj_far ?_ (NB189_194.out) _)); exact BK189.out) hgr2 (fun e_ => GNE189.out (Option.some.inj e_).symm)); clear BK189; have BK189 := b_; clear b_)); (try (have hzm189_0 : wm2.cell? ⟨gb189, 0, none⟩ = some (.int .i64 a0_0) := (blk_cell BK189.out 0).trans rfl)); (try (have hfm189_0 := blk_frozen BK189.out 0)); (try (have hzm189_1 : wm2.cell? ⟨gb189, 1, none⟩ = some (.int .i64 a0_1) := (blk_cell BK189.out 1).trans rfl)); (try (have hfm189_1 := blk_frozen BK189.out 1)); (try (have hzm189_2 : wm2.cell? ⟨gb189, 2, none⟩ = some (.int .i64 a0_2) := (blk_cell BK189.out 2).trans rfl)); (try (have hfm189_2 := blk_frozen BK189.out 2)); (try (have b_ := Aside0.mk (blk_grown (g := gb191) (o := _) (by (with_reducible repeat (first | refine blk_drewN ?_ _ | refine blk_drew ?_ | refine blk_alloc ?_ _ | refine blk_put (g := gb191) ?_ _ _ rfl | refine obj_far ?_ (NB191_189.out) _ | refine obj_far ?_ (NB191_194.out) _)); exact BK191.out) hgr2 (fun e_ => GNE191.out (Option.some.inj e_).symm)); clear BK191; have BK191 := b_; clear b_)); (try (have hzm191_0 : wm2.cell? ⟨gb191, 0, none⟩ = some (.string ((rd_T68 l1 x46_2).f0)) := (blk_cell BK191.out 0).trans rfl)); (try (have hfm191_0 := blk_frozen BK191.out 0)); (try (have hzm191_1 : wm2.cell? ⟨gb191, 1, none⟩ = some (.int .i64 ((rd_T68 l1 x46_2).f1)) := (blk_cell BK191.out 1).trans rfl)); (try (have hfm191_1 := blk_frozen BK191.out 1)); (try (have hzm191_2 : wm2.cell? ⟨gb191, 2, none⟩ = some ((.slice A190_2 ((rd_T68 l1 x46_2).f2).length c190_2)) := (blk_cell BK191.out 2).trans rfl)); (try (have hfm191_2 := blk_frozen BK191.out 2)); (try (have b_ := Aside0.mk (blk_grown (g := gb194) (o := _) (by (with_reducible repeat (first | refine blk_drewN ?_ _ | refine blk_drew ?_ | refine blk_alloc ?_ _ | refine blk_put (g := gb194) ?_ _ _ rfl | refine obj_far ?_ (NB194_189.out) _ | refine obj_far ?_ (NB194_191.out) _)); exact BK194.out) hgr2 (fun e_ => GNE194.out (Option.some.inj e_).symm)); clear BK194; have BK194 := b_; clear b_)); clear HB; have HB := n0_; clear n0_; clear BKM HS; obtain ⟨om, hom2, hos2⟩ := hsm2; have BKM := Aside0.mk hom2; have HS := Aside0.mk hos2; clear hom2 hos2 hgr2))
                  go_ret
                  exact ⟨by first | rfl | (simp [errW_none, errW_some] <;> rfl) | (simp [*, errW_none, errW_some] <;> rfl), by repeat (first | (with_reducible first | exact HB.out | apply below_alloc | apply pw_below_drewN | apply below_drew1 | refine below_set ?_ GE189.out | refine below_set ?_ GE191.out | refine below_set ?_ GE194.out) | exact HB.out)⟩
                 ·rw [if_neg c60] at H
                  have c60b0 : decide (((rd_T71 ((rd_T68 l1 x46_2).f2) x88_4).f0) < 0) = false := decide_eq_false c60
                  clear c60
                  by_cases c65 : ((rd_T71 ((rd_T68 l1 x46_2).f2) x88_4).f0) ≥ a0_0
                  ·rw [if_pos c65] at H
                   have c65b0 : decide (a0_0 ≤ ((rd_T71 ((rd_T68 l1 x46_2).f2) x88_4).f0)) = true := decide_eq_true c65
                   clear c65
                   obtain rfl := Option.some.inj H
                   have p193 : 0 ≤ (x88_4 : Int) := of_decide_eq_true (by first | (with_reducible assumption) | assumption)
                   have q193 : x88_4 < (((rd_T68 l1 x46_2).f2).length : Int) := of_decide_eq_true (by first | (with_reducible assumption) | assumption)
                   obtain ⟨ad193, e193, hx193_0, hx193_1, hx193_2, hx193_3⟩ := at_T71 HR190_2.out x88_4 p193 q193
                   cases e193
                   replace hx193_0 := (HB.out.cell (World.block_lt_of_cell? w _ hx193_0)).trans hx193_0
                   replace hx193_1 := (HB.out.cell (World.block_lt_of_cell? w _ hx193_1)).trans hx193_1
                   replace hx193_2 := (HB.out.cell (World.block_lt_of_cell? w _ hx193_2)).trans hx193_2
                   replace hx193_3 := (HB.out.cell (World.block_lt_of_cell? w _ hx193_3)).trans hx193_3
                   replace p193 := eq_true p193
                   replace q193 := eq_true q193
                   go_wp2_with (first | ((with_reducible refine gate_dst (N := 9) rfl ?_); (try (refine gate_guard (by rfl) ?_; dsimp only)); refine box_event ?hg (N := 9) ?hd (cs := #[.int .i64 0, .int .i64 0, .int .i64 0, .int .i64 0]) (t := 71) ?hr ?_; (case hd => rfl); (case hg => rfl); (case hr => first | (go_simp; done) | (go_simp; rfl)); intro gb194 hg w66 hbox hb; have n0_ := Aside0.mk (blk_below (g := gb189) (o := .cells #[.int .i64 a0_0, .int .i64 a0_1, .int .i64 a0_2] 38 (0, 0)) (by (with_reducible repeat (first | refine blk_drewN ?_ _ | refine blk_drew ?_ | refine blk_alloc ?_ _)); exact BK189.out) hb); have n1_ := Aside0.mk (blk_below (g := gb191) (o := .cells #[.string ((rd_T68 l1 x46_2).f0), .int .i64 ((rd_T68 l1 x46_2).f1), .slice (some ad193) ((rd_T68 l1 x46_2).f2).length c190_2] 68 (0, 0)) (by (with_reducible repeat (first | refine blk_drewN ?_ _ | refine blk_drew ?_ | refine blk_alloc ?_ _)); exact BK191.out) hb); have n2_ := Aside0.mk (below_step (by repeat (first | (with_reducible first | exact HB.out | apply below_alloc | apply pw_below_drewN | apply below_drew1 | refine below_set ?_ GE189.out | refine below_set ?_ GE191.out) | exact HB.out)) hb); have n3_ := Aside0.mk (hbox); have n4_ := Aside0.mk ((by rw [hg]; exact (below_size (by repeat (first | (with_reducible first | exact HB.out | apply below_alloc | apply pw_below_drewN | apply below_drew1 | refine below_set ?_ GE189.out | refine below_set ?_ GE191.out) | exact HB.out))) : w.heap.size ≤ gb194)); have n5_ := Aside0.mk ((by rw [hg]; exact (below_size (by repeat (first | (with_reducible first | exact HB.out | apply below_alloc | apply pw_below_drewN | apply below_drew1 | refine below_set ?_ GE189.out | refine below_set ?_ GE191.out) | exact HB.out))) : w.heap.size ≤ gb194)); have n6_ := Aside0.mk ((by rw [hg]; exact Nat.ne_of_lt (blk_lt (g := gb189) (o := .cells #[.int .i64 a0_0, .int .i64 a0_1, .int .i64 a0_2] 38 (0, 0)) (by (with_reducible repeat (first | refine blk_drewN ?_ _ | refine blk_drew ?_ | refine blk_alloc ?_ _)); exact BK189.out)) : gb189 ≠ gb194)); have n7_ := Aside0.mk ((by rw [hg]; exact Nat.ne_of_gt (blk_lt (g := gb189) (o := .cells #[.int .i64 a0_0, .int .i64 a0_1, .int .i64 a0_2] 38 (0, 0)) (by (with_reducible repeat (first | refine blk_drewN ?_ _ | refine blk_drew ?_ | refine blk_alloc ?_ _)); exact BK189.out)) : gb194 ≠ gb189)); have n8_ := Aside0.mk ((by rw [hg]; exact Nat.ne_of_lt (blk_lt (g := gb191) (o := .cells #[.string ((rd_T68 l1 x46_2).f0), .int .i64 ((rd_T68 l1 x46_2).f1), .slice (some ad193) ((rd_T68 l1 x46_2).f2).length c190_2] 68 (0, 0)) (by (with_reducible repeat (first | refine blk_drewN ?_ _ | refine blk_drew ?_ | refine blk_alloc ?_ _)); exact BK191.out)) : gb191 ≠ gb194)); have n9_ := Aside0.mk ((by rw [hg]; exact Nat.ne_of_gt (blk_lt (g := gb191) (o := .cells #[.string ((rd_T68 l1 x46_2).f0), .int .i64 ((rd_T68 l1 x46_2).f1), .slice (some ad193) ((rd_T68 l1 x46_2).f2).length c190_2] 68 (0, 0)) (by (with_reducible repeat (first | refine blk_drewN ?_ _ | refine blk_drew ?_ | refine blk_alloc ?_ _)); exact BK191.out)) : gb194 ≠ gb191)); clear BK189; clear BK191; clear HB; have BK189 := n0_; have BK191 := n1_; have HB := n2_; have BK194 := n3_; have GW194 := n4_; have GE194 := n5_; have NB189_194 := n6_; have NB194_189 := n7_; have NB191_194 := n8_; have NB194_191 := n9_; clear n0_ n1_ n2_ n3_ n4_ n5_ n6_ n7_ n8_ n9_; have m0_ := Aside0.mk (blk_below (g := BM) (o := om) (by (with_reducible repeat (first | refine blk_drewN ?_ _ | refine blk_drew ?_ | refine blk_alloc ?_ _ | refine obj_far ?_ GNE189.out _ | refine obj_far ?_ GNE191.out _ | refine obj_far ?_ GNE194.out _)); exact BKM.out) hb); have m1_ := Aside0.mk (show BM ≠ gb194 from Nat.ne_of_lt (by rw [hg]; exact blk_lt (o := om) (by (with_reducible repeat (first | refine blk_drewN ?_ _ | refine blk_drew ?_ | refine blk_alloc ?_ _ | refine obj_far ?_ GNE189.out _ | refine obj_far ?_ GNE191.out _ | refine obj_far ?_ GNE194.out _)); exact BKM.out))); clear BKM; have BKM := m0_; have GNE194 := m1_; clear m0_ m1_; clear hb hbox hg; have hnb67 := NB194_189.out; have hnc67 := NB189_194.out; have hnb68 := NB194_191.out; have hnc68 := NB191_194.out; have hcz69_0 : w66.cell? ⟨gb194, 0, none⟩ = some (.int .i64 0) := (blk_cell BK194.out 0).trans rfl; have hcz69_1 : w66.cell? ⟨gb194, 1, none⟩ = some (.int .i64 0) := (blk_cell BK194.out 1).trans rfl; have hcz69_2 : w66.cell? ⟨gb194, 2, none⟩ = some (.int .i64 0) := (blk_cell BK194.out 2).trans rfl; have hcz69_3 : w66.cell? ⟨gb194, 3, none⟩ = some (.int .i64 0) := (blk_cell BK194.out 3).trans rfl; have hfz69_0 := blk_frozen BK194.out 0; have hfz69_1 := blk_frozen BK194.out 1; have hfz69_2 := blk_frozen BK194.out 2; have hfz69_3 := blk_frozen BK194.out 3; have hnb70 := NB189_191.out; have hnc70 := NB191_189.out; have hcz71_0 : w66.cell? ⟨gb189, 0, none⟩ = some (.int .i64 a0_0) := (blk_cell BK189.out 0).trans rfl; have hcz71_1 : w66.cell? ⟨gb189, 1, none⟩ = some (.int .i64 a0_1) := (blk_cell BK189.out 1).trans rfl; have hcz71_2 : w66.cell? ⟨gb189, 2, none⟩ = some (.int .i64 a0_2) := (blk_cell BK189.out 2).trans rfl; have hfz71_0 := blk_frozen BK189.out 0; have hfz71_1 := blk_frozen BK189.out 1; have hfz71_2 := blk_frozen BK189.out 2) | ((with_reducible refine gate_ (Op.lookup 73 (.tmp 55) (.tmp 57) false) rfl ?_); (try (refine gate_guard (by rfl) ?_; dsimp only)); refine wpList_lookup_seen rfl rfl Tryd.underlying9 Tryd.underlying73 Tryd.underlying4 (by kernel_rfl) BM x5_2 om (by (with_reducible repeat (first | refine blk_drewN ?_ _ | refine blk_drew ?_ | refine blk_alloc ?_ _ | refine obj_far ?_ GNE189.out _ | refine obj_far ?_ GNE191.out _ | refine obj_far ?_ GNE194.out _)); exact BKM.out) HS.out ((rd_T68 l1 x46_2).f0) KS.out rfl rfl ?_; (try rw [c27b0])) | ((with_reducible refine gate_ (Op.mapUpdate 73 (.tmp 82) (.tmp 84) (.const (.bool true))) rfl ?_); refine wpList_update_seen rfl rfl Tryd.underlying9 Tryd.underlying73 Tryd.underlying4 BM x5_2 om (by (with_reducible repeat (first | refine blk_drewN ?_ _ | refine blk_drew ?_ | refine blk_alloc ?_ _ | refine obj_far ?_ GNE189.out _ | refine obj_far ?_ GNE191.out _ | refine obj_far ?_ GNE194.out _)); exact BKM.out) HS.out ((rd_T68 l1 x46_2).f0) KS.out KL.out rfl rfl rfl ?_; intro wm2 hsm2 hgr2; have n0_ := Aside0.mk (pw_below_grown (by repeat (first | (with_reducible first | exact HB.out | apply below_alloc | apply pw_below_drewN | apply below_drew1 | refine below_set ?_ GE189.out | refine below_set ?_ GE191.out | refine below_set ?_ GE194.out) | exact HB.out)) (some BM) (below_size (by repeat (first | (with_reducible first | exact HB.out | apply below_alloc | apply pw_below_drewN | apply below_drew1 | refine below_set ?_ GE189.out | refine below_set ?_ GE191.out | refine below_set ?_ GE194.out) | exact HB.out))) hgr2 (fun k_ hk_ => by cases hk_; exact HBM.out)); (try (have b_ := Aside0.mk (blk_grown (g := gb189) (o := _) (by (with_reducible repeat (first | refine blk_drewN ?_ _ | refine blk_drew ?_ | refine blk_alloc ?_ _ | refine blk_put (g := gb189) ?_ _ _ rfl | refine obj_far ?_ (NB189_191.out) _ | refine obj_far ?_ (NB189_194.out) _)); exact BK189.out) hgr2 (fun e_ => GNE189.out (Option.some.inj e_).symm)); clear BK189; have BK189 := b_; clear b_)); (try (have hzm189_0 : wm2.cell? ⟨gb189, 0, none⟩ = some (.int .i64 a0_0) := (blk_cell BK189.out 0).trans rfl)); (try (have hfm189_0 := blk_frozen BK189.out 0)); (try (have hzm189_1 : wm2.cell? ⟨gb189, 1, none⟩ = some (.int .i64 a0_1) := (blk_cell BK189.out 1).trans rfl)); (try (have hfm189_1 := blk_frozen BK189.out 1)); (try (have hzm189_2 : wm2.cell? ⟨gb189, 2, none⟩ = some (.int .i64 a0_2) := (blk_cell BK189.out 2).trans rfl)); (try (have hfm189_2 := blk_frozen BK189.out 2)); (try (have b_ := Aside0.mk (blk_grown (g := gb191) (o := _) (by (with_reducible repeat (first | refine blk_drewN ?_ _ | refine blk_drew ?_ | refine blk_alloc ?_ _ | refine blk_put (g := gb191) ?_ _ _ rfl | refine obj_far ?_ (NB191_189.out) _ | refine obj_far ?_ (NB191_194.out) _)); exact BK191.out) hgr2 (fun e_ => GNE191.out (Option.some.inj e_).symm)); clear BK191; have BK191 := b_; clear b_)); (try (have hzm191_0 : wm2.cell? ⟨gb191, 0, none⟩ = some (.string ((rd_T68 l1 x46_2).f0)) := (blk_cell BK191.out 0).trans rfl)); (try (have hfm191_0 := blk_frozen BK191.out 0)); (try (have hzm191_1 : wm2.cell? ⟨gb191, 1, none⟩ = some (.int .i64 ((rd_T68 l1 x46_2).f1)) := (blk_cell BK191.out 1).trans rfl)); (try (have hfm191_1 := blk_frozen BK191.out 1)); (try (have hzm191_2 : wm2.cell? ⟨gb191, 2, none⟩ = some ((.slice A190_2 ((rd_T68 l1 x46_2).f2).length c190_2)) := (blk_cell BK191.out 2).trans rfl)); (try (have hfm191_2 := blk_frozen BK191.out 2)); (try (have b_ := Aside0.mk (blk_grown (g := gb194) (o := _) (by (with_reducible repeat (first | refine blk_drewN ?_ _ | refine blk_drew ?_ | refine blk_alloc ?_ _ | refine blk_put (g := gb194) ?_ _ _ rfl | refine obj_far ?_ (NB194_189.out) _ | refine obj_far ?_ (NB194_191.out) _)); exact BK194.out) hgr2 (fun e_ => GNE194.out (Option.some.inj e_).symm)); clear BK194; have BK194 := b_; clear b_)); clear HB; have HB := n0_; clear n0_; clear BKM HS; obtain ⟨om, hom2, hos2⟩ := hsm2; have BKM := Aside0.mk hom2; have HS := Aside0.mk hos2; clear hom2 hos2 hgr2))
                   go_ret
                   exact ⟨by first | rfl | (simp [errW_none, errW_some] <;> rfl) | (simp [*, errW_none, errW_some] <;> rfl), by repeat (first | (with_reducible first | exact HB.out | apply below_alloc | apply pw_below_drewN | apply below_drew1 | refine below_set ?_ GE189.out | refine below_set ?_ GE191.out | refine below_set ?_ GE194.out) | exact HB.out)⟩
                  ·rw [if_neg c65] at H
                   have c65b0 : decide (a0_0 ≤ ((rd_T71 ((rd_T68 l1 x46_2).f2) x88_4).f0)) = false := decide_eq_false c65
                   clear c65
                   by_cases c72 : ((rd_T71 ((rd_T68 l1 x46_2).f2) x88_4).f1) < 1
                   ·rw [if_pos c72] at H
                    have c72b0 : decide (((rd_T71 ((rd_T68 l1 x46_2).f2) x88_4).f1) < 1) = true := decide_eq_true c72
                    clear c72
                    obtain rfl := Option.some.inj H
                    have p193 : 0 ≤ (x88_4 : Int) := of_decide_eq_true (by first | (with_reducible assumption) | assumption)
                    have q193 : x88_4 < (((rd_T68 l1 x46_2).f2).length : Int) := of_decide_eq_true (by first | (with_reducible assumption) | assumption)
                    obtain ⟨ad193, e193, hx193_0, hx193_1, hx193_2, hx193_3⟩ := at_T71 HR190_2.out x88_4 p193 q193
                    cases e193
                    replace hx193_0 := (HB.out.cell (World.block_lt_of_cell? w _ hx193_0)).trans hx193_0
                    replace hx193_1 := (HB.out.cell (World.block_lt_of_cell? w _ hx193_1)).trans hx193_1
                    replace hx193_2 := (HB.out.cell (World.block_lt_of_cell? w _ hx193_2)).trans hx193_2
                    replace hx193_3 := (HB.out.cell (World.block_lt_of_cell? w _ hx193_3)).trans hx193_3
                    replace p193 := eq_true p193
                    replace q193 := eq_true q193
                    go_wp2_with (first | ((with_reducible refine gate_dst (N := 9) rfl ?_); (try (refine gate_guard (by rfl) ?_; dsimp only)); refine box_event ?hg (N := 9) ?hd (cs := #[.int .i64 0, .int .i64 0, .int .i64 0, .int .i64 0]) (t := 71) ?hr ?_; (case hd => rfl); (case hg => rfl); (case hr => first | (go_simp; done) | (go_simp; rfl)); intro gb194 hg w73 hbox hb; have n0_ := Aside0.mk (blk_below (g := gb189) (o := .cells #[.int .i64 a0_0, .int .i64 a0_1, .int .i64 a0_2] 38 (0, 0)) (by (with_reducible repeat (first | refine blk_drewN ?_ _ | refine blk_drew ?_ | refine blk_alloc ?_ _)); exact BK189.out) hb); have n1_ := Aside0.mk (blk_below (g := gb191) (o := .cells #[.string ((rd_T68 l1 x46_2).f0), .int .i64 ((rd_T68 l1 x46_2).f1), .slice (some ad193) ((rd_T68 l1 x46_2).f2).length c190_2] 68 (0, 0)) (by (with_reducible repeat (first | refine blk_drewN ?_ _ | refine blk_drew ?_ | refine blk_alloc ?_ _)); exact BK191.out) hb); have n2_ := Aside0.mk (below_step (by repeat (first | (with_reducible first | exact HB.out | apply below_alloc | apply pw_below_drewN | apply below_drew1 | refine below_set ?_ GE189.out | refine below_set ?_ GE191.out) | exact HB.out)) hb); have n3_ := Aside0.mk (hbox); have n4_ := Aside0.mk ((by rw [hg]; exact (below_size (by repeat (first | (with_reducible first | exact HB.out | apply below_alloc | apply pw_below_drewN | apply below_drew1 | refine below_set ?_ GE189.out | refine below_set ?_ GE191.out) | exact HB.out))) : w.heap.size ≤ gb194)); have n5_ := Aside0.mk ((by rw [hg]; exact (below_size (by repeat (first | (with_reducible first | exact HB.out | apply below_alloc | apply pw_below_drewN | apply below_drew1 | refine below_set ?_ GE189.out | refine below_set ?_ GE191.out) | exact HB.out))) : w.heap.size ≤ gb194)); have n6_ := Aside0.mk ((by rw [hg]; exact Nat.ne_of_lt (blk_lt (g := gb189) (o := .cells #[.int .i64 a0_0, .int .i64 a0_1, .int .i64 a0_2] 38 (0, 0)) (by (with_reducible repeat (first | refine blk_drewN ?_ _ | refine blk_drew ?_ | refine blk_alloc ?_ _)); exact BK189.out)) : gb189 ≠ gb194)); have n7_ := Aside0.mk ((by rw [hg]; exact Nat.ne_of_gt (blk_lt (g := gb189) (o := .cells #[.int .i64 a0_0, .int .i64 a0_1, .int .i64 a0_2] 38 (0, 0)) (by (with_reducible repeat (first | refine blk_drewN ?_ _ | refine blk_drew ?_ | refine blk_alloc ?_ _)); exact BK189.out)) : gb194 ≠ gb189)); have n8_ := Aside0.mk ((by rw [hg]; exact Nat.ne_of_lt (blk_lt (g := gb191) (o := .cells #[.string ((rd_T68 l1 x46_2).f0), .int .i64 ((rd_T68 l1 x46_2).f1), .slice (some ad193) ((rd_T68 l1 x46_2).f2).length c190_2] 68 (0, 0)) (by (with_reducible repeat (first | refine blk_drewN ?_ _ | refine blk_drew ?_ | refine blk_alloc ?_ _)); exact BK191.out)) : gb191 ≠ gb194)); have n9_ := Aside0.mk ((by rw [hg]; exact Nat.ne_of_gt (blk_lt (g := gb191) (o := .cells #[.string ((rd_T68 l1 x46_2).f0), .int .i64 ((rd_T68 l1 x46_2).f1), .slice (some ad193) ((rd_T68 l1 x46_2).f2).length c190_2] 68 (0, 0)) (by (with_reducible repeat (first | refine blk_drewN ?_ _ | refine blk_drew ?_ | refine blk_alloc ?_ _)); exact BK191.out)) : gb194 ≠ gb191)); clear BK189; clear BK191; clear HB; have BK189 := n0_; have BK191 := n1_; have HB := n2_; have BK194 := n3_; have GW194 := n4_; have GE194 := n5_; have NB189_194 := n6_; have NB194_189 := n7_; have NB191_194 := n8_; have NB194_191 := n9_; clear n0_ n1_ n2_ n3_ n4_ n5_ n6_ n7_ n8_ n9_; have m0_ := Aside0.mk (blk_below (g := BM) (o := om) (by (with_reducible repeat (first | refine blk_drewN ?_ _ | refine blk_drew ?_ | refine blk_alloc ?_ _ | refine obj_far ?_ GNE189.out _ | refine obj_far ?_ GNE191.out _ | refine obj_far ?_ GNE194.out _)); exact BKM.out) hb); have m1_ := Aside0.mk (show BM ≠ gb194 from Nat.ne_of_lt (by rw [hg]; exact blk_lt (o := om) (by (with_reducible repeat (first | refine blk_drewN ?_ _ | refine blk_drew ?_ | refine blk_alloc ?_ _ | refine obj_far ?_ GNE189.out _ | refine obj_far ?_ GNE191.out _ | refine obj_far ?_ GNE194.out _)); exact BKM.out))); clear BKM; have BKM := m0_; have GNE194 := m1_; clear m0_ m1_; clear hb hbox hg; have hnb74 := NB194_189.out; have hnc74 := NB189_194.out; have hnb75 := NB194_191.out; have hnc75 := NB191_194.out; have hcz76_0 : w73.cell? ⟨gb194, 0, none⟩ = some (.int .i64 0) := (blk_cell BK194.out 0).trans rfl; have hcz76_1 : w73.cell? ⟨gb194, 1, none⟩ = some (.int .i64 0) := (blk_cell BK194.out 1).trans rfl; have hcz76_2 : w73.cell? ⟨gb194, 2, none⟩ = some (.int .i64 0) := (blk_cell BK194.out 2).trans rfl; have hcz76_3 : w73.cell? ⟨gb194, 3, none⟩ = some (.int .i64 0) := (blk_cell BK194.out 3).trans rfl; have hfz76_0 := blk_frozen BK194.out 0; have hfz76_1 := blk_frozen BK194.out 1; have hfz76_2 := blk_frozen BK194.out 2; have hfz76_3 := blk_frozen BK194.out 3; have hnb77 := NB189_191.out; have hnc77 := NB191_189.out; have hcz78_0 : w73.cell? ⟨gb189, 0, none⟩ = some (.int .i64 a0_0) := (blk_cell BK189.out 0).trans rfl; have hcz78_1 : w73.cell? ⟨gb189, 1, none⟩ = some (.int .i64 a0_1) := (blk_cell BK189.out 1).trans rfl; have hcz78_2 : w73.cell? ⟨gb189, 2, none⟩ = some (.int .i64 a0_2) := (blk_cell BK189.out 2).trans rfl; have hfz78_0 := blk_frozen BK189.out 0; have hfz78_1 := blk_frozen BK189.out 1; have hfz78_2 := blk_frozen BK189.out 2) | ((with_reducible refine gate_ (Op.lookup 73 (.tmp 55) (.tmp 57) false) rfl ?_); (try (refine gate_guard (by rfl) ?_; dsimp only)); refine wpList_lookup_seen rfl rfl Tryd.underlying9 Tryd.underlying73 Tryd.underlying4 (by kernel_rfl) BM x5_2 om (by (with_reducible repeat (first | refine blk_drewN ?_ _ | refine blk_drew ?_ | refine blk_alloc ?_ _ | refine obj_far ?_ GNE189.out _ | refine obj_far ?_ GNE191.out _ | refine obj_far ?_ GNE194.out _)); exact BKM.out) HS.out ((rd_T68 l1 x46_2).f0) KS.out rfl rfl ?_; (try rw [c27b0])) | ((with_reducible refine gate_ (Op.mapUpdate 73 (.tmp 82) (.tmp 84) (.const (.bool true))) rfl ?_); refine wpList_update_seen rfl rfl Tryd.underlying9 Tryd.underlying73 Tryd.underlying4 BM x5_2 om (by (with_reducible repeat (first | refine blk_drewN ?_ _ | refine blk_drew ?_ | refine blk_alloc ?_ _ | refine obj_far ?_ GNE189.out _ | refine obj_far ?_ GNE191.out _ | refine obj_far ?_ GNE194.out _)); exact BKM.out) HS.out ((rd_T68 l1 x46_2).f0) KS.out KL.out rfl rfl rfl ?_; intro wm2 hsm2 hgr2; have n0_ := Aside0.mk (pw_below_grown (by repeat (first | (with_reducible first | exact HB.out | apply below_alloc | apply pw_below_drewN | apply below_drew1 | refine below_set ?_ GE189.out | refine below_set ?_ GE191.out | refine below_set ?_ GE194.out) | exact HB.out)) (some BM) (below_size (by repeat (first | (with_reducible first | exact HB.out | apply below_alloc | apply pw_below_drewN | apply below_drew1 | refine below_set ?_ GE189.out | refine below_set ?_ GE191.out | refine below_set ?_ GE194.out) | exact HB.out))) hgr2 (fun k_ hk_ => by cases hk_; exact HBM.out)); (try (have b_ := Aside0.mk (blk_grown (g := gb189) (o := _) (by (with_reducible repeat (first | refine blk_drewN ?_ _ | refine blk_drew ?_ | refine blk_alloc ?_ _ | refine blk_put (g := gb189) ?_ _ _ rfl | refine obj_far ?_ (NB189_191.out) _ | refine obj_far ?_ (NB189_194.out) _)); exact BK189.out) hgr2 (fun e_ => GNE189.out (Option.some.inj e_).symm)); clear BK189; have BK189 := b_; clear b_)); (try (have hzm189_0 : wm2.cell? ⟨gb189, 0, none⟩ = some (.int .i64 a0_0) := (blk_cell BK189.out 0).trans rfl)); (try (have hfm189_0 := blk_frozen BK189.out 0)); (try (have hzm189_1 : wm2.cell? ⟨gb189, 1, none⟩ = some (.int .i64 a0_1) := (blk_cell BK189.out 1).trans rfl)); (try (have hfm189_1 := blk_frozen BK189.out 1)); (try (have hzm189_2 : wm2.cell? ⟨gb189, 2, none⟩ = some (.int .i64 a0_2) := (blk_cell BK189.out 2).trans rfl)); (try (have hfm189_2 := blk_frozen BK189.out 2)); (try (have b_ := Aside0.mk (blk_grown (g := gb191) (o := _) (by (with_reducible repeat (first | refine blk_drewN ?_ _ | refine blk_drew ?_ | refine blk_alloc ?_ _ | refine blk_put (g := gb191) ?_ _ _ rfl | refine obj_far ?_ (NB191_189.out) _ | refine obj_far ?_ (NB191_194.out) _)); exact BK191.out) hgr2 (fun e_ => GNE191.out (Option.some.inj e_).symm)); clear BK191; have BK191 := b_; clear b_)); (try (have hzm191_0 : wm2.cell? ⟨gb191, 0, none⟩ = some (.string ((rd_T68 l1 x46_2).f0)) := (blk_cell BK191.out 0).trans rfl)); (try (have hfm191_0 := blk_frozen BK191.out 0)); (try (have hzm191_1 : wm2.cell? ⟨gb191, 1, none⟩ = some (.int .i64 ((rd_T68 l1 x46_2).f1)) := (blk_cell BK191.out 1).trans rfl)); (try (have hfm191_1 := blk_frozen BK191.out 1)); (try (have hzm191_2 : wm2.cell? ⟨gb191, 2, none⟩ = some ((.slice A190_2 ((rd_T68 l1 x46_2).f2).length c190_2)) := (blk_cell BK191.out 2).trans rfl)); (try (have hfm191_2 := blk_frozen BK191.out 2)); (try (have b_ := Aside0.mk (blk_grown (g := gb194) (o := _) (by (with_reducible repeat (first | refine blk_drewN ?_ _ | refine blk_drew ?_ | refine blk_alloc ?_ _ | refine blk_put (g := gb194) ?_ _ _ rfl | refine obj_far ?_ (NB194_189.out) _ | refine obj_far ?_ (NB194_191.out) _)); exact BK194.out) hgr2 (fun e_ => GNE194.out (Option.some.inj e_).symm)); clear BK194; have BK194 := b_; clear b_)); clear HB; have HB := n0_; clear n0_; clear BKM HS; obtain ⟨om, hom2, hos2⟩ := hsm2; have BKM := Aside0.mk hom2; have HS := Aside0.mk hos2; clear hom2 hos2 hgr2))
                    go_ret
                    exact ⟨by first | rfl | (simp [errW_none, errW_some] <;> rfl) | (simp [*, errW_none, errW_some] <;> rfl), by repeat (first | (with_reducible first | exact HB.out | apply below_alloc | apply pw_below_drewN | apply below_drew1 | refine below_set ?_ GE189.out | refine below_set ?_ GE191.out | refine below_set ?_ GE194.out) | exact HB.out)⟩
                   ·rw [if_neg c72] at H
                    have c72b0 : decide (((rd_T71 ((rd_T68 l1 x46_2).f2) x88_4).f1) < 1) = false := decide_eq_false c72
                    clear c72
                    by_cases c79 : ((rd_T71 ((rd_T68 l1 x46_2).f2) x88_4).f1) > 1000
                    ·rw [if_pos c79] at H
                     have c79b0 : decide (1000 < ((rd_T71 ((rd_T68 l1 x46_2).f2) x88_4).f1)) = true := decide_eq_true c79
                     clear c79
                     obtain rfl := Option.some.inj H
                     have p193 : 0 ≤ (x88_4 : Int) := of_decide_eq_true (by first | (with_reducible assumption) | assumption)
                     have q193 : x88_4 < (((rd_T68 l1 x46_2).f2).length : Int) := of_decide_eq_true (by first | (with_reducible assumption) | assumption)
                     obtain ⟨ad193, e193, hx193_0, hx193_1, hx193_2, hx193_3⟩ := at_T71 HR190_2.out x88_4 p193 q193
                     cases e193
                     replace hx193_0 := (HB.out.cell (World.block_lt_of_cell? w _ hx193_0)).trans hx193_0
                     replace hx193_1 := (HB.out.cell (World.block_lt_of_cell? w _ hx193_1)).trans hx193_1
                     replace hx193_2 := (HB.out.cell (World.block_lt_of_cell? w _ hx193_2)).trans hx193_2
                     replace hx193_3 := (HB.out.cell (World.block_lt_of_cell? w _ hx193_3)).trans hx193_3
                     replace p193 := eq_true p193
                     replace q193 := eq_true q193
                     go_wp2_with (first | ((with_reducible refine gate_dst (N := 9) rfl ?_); (try (refine gate_guard (by rfl) ?_; dsimp only)); refine box_event ?hg (N := 9) ?hd (cs := #[.int .i64 0, .int .i64 0, .int .i64 0, .int .i64 0]) (t := 71) ?hr ?_; (case hd => rfl); (case hg => rfl); (case hr => first | (go_simp; done) | (go_simp; rfl)); intro gb194 hg w80 hbox hb; have n0_ := Aside0.mk (blk_below (g := gb189) (o := .cells #[.int .i64 a0_0, .int .i64 a0_1, .int .i64 a0_2] 38 (0, 0)) (by (with_reducible repeat (first | refine blk_drewN ?_ _ | refine blk_drew ?_ | refine blk_alloc ?_ _)); exact BK189.out) hb); have n1_ := Aside0.mk (blk_below (g := gb191) (o := .cells #[.string ((rd_T68 l1 x46_2).f0), .int .i64 ((rd_T68 l1 x46_2).f1), .slice (some ad193) ((rd_T68 l1 x46_2).f2).length c190_2] 68 (0, 0)) (by (with_reducible repeat (first | refine blk_drewN ?_ _ | refine blk_drew ?_ | refine blk_alloc ?_ _)); exact BK191.out) hb); have n2_ := Aside0.mk (below_step (by repeat (first | (with_reducible first | exact HB.out | apply below_alloc | apply pw_below_drewN | apply below_drew1 | refine below_set ?_ GE189.out | refine below_set ?_ GE191.out) | exact HB.out)) hb); have n3_ := Aside0.mk (hbox); have n4_ := Aside0.mk ((by rw [hg]; exact (below_size (by repeat (first | (with_reducible first | exact HB.out | apply below_alloc | apply pw_below_drewN | apply below_drew1 | refine below_set ?_ GE189.out | refine below_set ?_ GE191.out) | exact HB.out))) : w.heap.size ≤ gb194)); have n5_ := Aside0.mk ((by rw [hg]; exact (below_size (by repeat (first | (with_reducible first | exact HB.out | apply below_alloc | apply pw_below_drewN | apply below_drew1 | refine below_set ?_ GE189.out | refine below_set ?_ GE191.out) | exact HB.out))) : w.heap.size ≤ gb194)); have n6_ := Aside0.mk ((by rw [hg]; exact Nat.ne_of_lt (blk_lt (g := gb189) (o := .cells #[.int .i64 a0_0, .int .i64 a0_1, .int .i64 a0_2] 38 (0, 0)) (by (with_reducible repeat (first | refine blk_drewN ?_ _ | refine blk_drew ?_ | refine blk_alloc ?_ _)); exact BK189.out)) : gb189 ≠ gb194)); have n7_ := Aside0.mk ((by rw [hg]; exact Nat.ne_of_gt (blk_lt (g := gb189) (o := .cells #[.int .i64 a0_0, .int .i64 a0_1, .int .i64 a0_2] 38 (0, 0)) (by (with_reducible repeat (first | refine blk_drewN ?_ _ | refine blk_drew ?_ | refine blk_alloc ?_ _)); exact BK189.out)) : gb194 ≠ gb189)); have n8_ := Aside0.mk ((by rw [hg]; exact Nat.ne_of_lt (blk_lt (g := gb191) (o := .cells #[.string ((rd_T68 l1 x46_2).f0), .int .i64 ((rd_T68 l1 x46_2).f1), .slice (some ad193) ((rd_T68 l1 x46_2).f2).length c190_2] 68 (0, 0)) (by (with_reducible repeat (first | refine blk_drewN ?_ _ | refine blk_drew ?_ | refine blk_alloc ?_ _)); exact BK191.out)) : gb191 ≠ gb194)); have n9_ := Aside0.mk ((by rw [hg]; exact Nat.ne_of_gt (blk_lt (g := gb191) (o := .cells #[.string ((rd_T68 l1 x46_2).f0), .int .i64 ((rd_T68 l1 x46_2).f1), .slice (some ad193) ((rd_T68 l1 x46_2).f2).length c190_2] 68 (0, 0)) (by (with_reducible repeat (first | refine blk_drewN ?_ _ | refine blk_drew ?_ | refine blk_alloc ?_ _)); exact BK191.out)) : gb194 ≠ gb191)); clear BK189; clear BK191; clear HB; have BK189 := n0_; have BK191 := n1_; have HB := n2_; have BK194 := n3_; have GW194 := n4_; have GE194 := n5_; have NB189_194 := n6_; have NB194_189 := n7_; have NB191_194 := n8_; have NB194_191 := n9_; clear n0_ n1_ n2_ n3_ n4_ n5_ n6_ n7_ n8_ n9_; have m0_ := Aside0.mk (blk_below (g := BM) (o := om) (by (with_reducible repeat (first | refine blk_drewN ?_ _ | refine blk_drew ?_ | refine blk_alloc ?_ _ | refine obj_far ?_ GNE189.out _ | refine obj_far ?_ GNE191.out _ | refine obj_far ?_ GNE194.out _)); exact BKM.out) hb); have m1_ := Aside0.mk (show BM ≠ gb194 from Nat.ne_of_lt (by rw [hg]; exact blk_lt (o := om) (by (with_reducible repeat (first | refine blk_drewN ?_ _ | refine blk_drew ?_ | refine blk_alloc ?_ _ | refine obj_far ?_ GNE189.out _ | refine obj_far ?_ GNE191.out _ | refine obj_far ?_ GNE194.out _)); exact BKM.out))); clear BKM; have BKM := m0_; have GNE194 := m1_; clear m0_ m1_; clear hb hbox hg; have hnb81 := NB194_189.out; have hnc81 := NB189_194.out; have hnb82 := NB194_191.out; have hnc82 := NB191_194.out; have hcz83_0 : w80.cell? ⟨gb194, 0, none⟩ = some (.int .i64 0) := (blk_cell BK194.out 0).trans rfl; have hcz83_1 : w80.cell? ⟨gb194, 1, none⟩ = some (.int .i64 0) := (blk_cell BK194.out 1).trans rfl; have hcz83_2 : w80.cell? ⟨gb194, 2, none⟩ = some (.int .i64 0) := (blk_cell BK194.out 2).trans rfl; have hcz83_3 : w80.cell? ⟨gb194, 3, none⟩ = some (.int .i64 0) := (blk_cell BK194.out 3).trans rfl; have hfz83_0 := blk_frozen BK194.out 0; have hfz83_1 := blk_frozen BK194.out 1; have hfz83_2 := blk_frozen BK194.out 2; have hfz83_3 := blk_frozen BK194.out 3; have hnb84 := NB189_191.out; have hnc84 := NB191_189.out; have hcz85_0 : w80.cell? ⟨gb189, 0, none⟩ = some (.int .i64 a0_0) := (blk_cell BK189.out 0).trans rfl; have hcz85_1 : w80.cell? ⟨gb189, 1, none⟩ = some (.int .i64 a0_1) := (blk_cell BK189.out 1).trans rfl; have hcz85_2 : w80.cell? ⟨gb189, 2, none⟩ = some (.int .i64 a0_2) := (blk_cell BK189.out 2).trans rfl; have hfz85_0 := blk_frozen BK189.out 0; have hfz85_1 := blk_frozen BK189.out 1; have hfz85_2 := blk_frozen BK189.out 2) | ((with_reducible refine gate_ (Op.lookup 73 (.tmp 55) (.tmp 57) false) rfl ?_); (try (refine gate_guard (by rfl) ?_; dsimp only)); refine wpList_lookup_seen rfl rfl Tryd.underlying9 Tryd.underlying73 Tryd.underlying4 (by kernel_rfl) BM x5_2 om (by (with_reducible repeat (first | refine blk_drewN ?_ _ | refine blk_drew ?_ | refine blk_alloc ?_ _ | refine obj_far ?_ GNE189.out _ | refine obj_far ?_ GNE191.out _ | refine obj_far ?_ GNE194.out _)); exact BKM.out) HS.out ((rd_T68 l1 x46_2).f0) KS.out rfl rfl ?_; (try rw [c27b0])) | ((with_reducible refine gate_ (Op.mapUpdate 73 (.tmp 82) (.tmp 84) (.const (.bool true))) rfl ?_); refine wpList_update_seen rfl rfl Tryd.underlying9 Tryd.underlying73 Tryd.underlying4 BM x5_2 om (by (with_reducible repeat (first | refine blk_drewN ?_ _ | refine blk_drew ?_ | refine blk_alloc ?_ _ | refine obj_far ?_ GNE189.out _ | refine obj_far ?_ GNE191.out _ | refine obj_far ?_ GNE194.out _)); exact BKM.out) HS.out ((rd_T68 l1 x46_2).f0) KS.out KL.out rfl rfl rfl ?_; intro wm2 hsm2 hgr2; have n0_ := Aside0.mk (pw_below_grown (by repeat (first | (with_reducible first | exact HB.out | apply below_alloc | apply pw_below_drewN | apply below_drew1 | refine below_set ?_ GE189.out | refine below_set ?_ GE191.out | refine below_set ?_ GE194.out) | exact HB.out)) (some BM) (below_size (by repeat (first | (with_reducible first | exact HB.out | apply below_alloc | apply pw_below_drewN | apply below_drew1 | refine below_set ?_ GE189.out | refine below_set ?_ GE191.out | refine below_set ?_ GE194.out) | exact HB.out))) hgr2 (fun k_ hk_ => by cases hk_; exact HBM.out)); (try (have b_ := Aside0.mk (blk_grown (g := gb189) (o := _) (by (with_reducible repeat (first | refine blk_drewN ?_ _ | refine blk_drew ?_ | refine blk_alloc ?_ _ | refine blk_put (g := gb189) ?_ _ _ rfl | refine obj_far ?_ (NB189_191.out) _ | refine obj_far ?_ (NB189_194.out) _)); exact BK189.out) hgr2 (fun e_ => GNE189.out (Option.some.inj e_).symm)); clear BK189; have BK189 := b_; clear b_)); (try (have hzm189_0 : wm2.cell? ⟨gb189, 0, none⟩ = some (.int .i64 a0_0) := (blk_cell BK189.out 0).trans rfl)); (try (have hfm189_0 := blk_frozen BK189.out 0)); (try (have hzm189_1 : wm2.cell? ⟨gb189, 1, none⟩ = some (.int .i64 a0_1) := (blk_cell BK189.out 1).trans rfl)); (try (have hfm189_1 := blk_frozen BK189.out 1)); (try (have hzm189_2 : wm2.cell? ⟨gb189, 2, none⟩ = some (.int .i64 a0_2) := (blk_cell BK189.out 2).trans rfl)); (try (have hfm189_2 := blk_frozen BK189.out 2)); (try (have b_ := Aside0.mk (blk_grown (g := gb191) (o := _) (by (with_reducible repeat (first | refine blk_drewN ?_ _ | refine blk_drew ?_ | refine blk_alloc ?_ _ | refine blk_put (g := gb191) ?_ _ _ rfl | refine obj_far ?_ (NB191_189.out) _ | refine obj_far ?_ (NB191_194.out) _)); exact BK191.out) hgr2 (fun e_ => GNE191.out (Option.some.inj e_).symm)); clear BK191; have BK191 := b_; clear b_)); (try (have hzm191_0 : wm2.cell? ⟨gb191, 0, none⟩ = some (.string ((rd_T68 l1 x46_2).f0)) := (blk_cell BK191.out 0).trans rfl)); (try (have hfm191_0 := blk_frozen BK191.out 0)); (try (have hzm191_1 : wm2.cell? ⟨gb191, 1, none⟩ = some (.int .i64 ((rd_T68 l1 x46_2).f1)) := (blk_cell BK191.out 1).trans rfl)); (try (have hfm191_1 := blk_frozen BK191.out 1)); (try (have hzm191_2 : wm2.cell? ⟨gb191, 2, none⟩ = some ((.slice A190_2 ((rd_T68 l1 x46_2).f2).length c190_2)) := (blk_cell BK191.out 2).trans rfl)); (try (have hfm191_2 := blk_frozen BK191.out 2)); (try (have b_ := Aside0.mk (blk_grown (g := gb194) (o := _) (by (with_reducible repeat (first | refine blk_drewN ?_ _ | refine blk_drew ?_ | refine blk_alloc ?_ _ | refine blk_put (g := gb194) ?_ _ _ rfl | refine obj_far ?_ (NB194_189.out) _ | refine obj_far ?_ (NB194_191.out) _)); exact BK194.out) hgr2 (fun e_ => GNE194.out (Option.some.inj e_).symm)); clear BK194; have BK194 := b_; clear b_)); clear HB; have HB := n0_; clear n0_; clear BKM HS; obtain ⟨om, hom2, hos2⟩ := hsm2; have BKM := Aside0.mk hom2; have HS := Aside0.mk hos2; clear hom2 hos2 hgr2))
                     go_ret
                     exact ⟨by first | rfl | (simp [errW_none, errW_some] <;> rfl) | (simp [*, errW_none, errW_some] <;> rfl), by repeat (first | (with_reducible first | exact HB.out | apply below_alloc | apply pw_below_drewN | apply below_drew1 | refine below_set ?_ GE189.out | refine below_set ?_ GE191.out | refine below_set ?_ GE194.out) | exact HB.out)⟩
                    ·rw [if_neg c79] at H
                     have c79b0 : decide (1000 < ((rd_T71 ((rd_T68 l1 x46_2).f2) x88_4).f1)) = false := decide_eq_false c79
                     clear c79
                     by_cases c86 : ((rd_T71 ((rd_T68 l1 x46_2).f2) x88_4).f2) < 0
                     ·rw [if_pos c86] at H
                      have c86b0 : decide (((rd_T71 ((rd_T68 l1 x46_2).f2) x88_4).f2) < 0) = true := decide_eq_true c86
                      clear c86
                      obtain rfl := Option.some.inj H
                      have p193 : 0 ≤ (x88_4 : Int) := of_decide_eq_true (by first | (with_reducible assumption) | assumption)
                      have q193 : x88_4 < (((rd_T68 l1 x46_2).f2).length : Int) := of_decide_eq_true (by first | (with_reducible assumption) | assumption)
                      obtain ⟨ad193, e193, hx193_0, hx193_1, hx193_2, hx193_3⟩ := at_T71 HR190_2.out x88_4 p193 q193
                      cases e193
                      replace hx193_0 := (HB.out.cell (World.block_lt_of_cell? w _ hx193_0)).trans hx193_0
                      replace hx193_1 := (HB.out.cell (World.block_lt_of_cell? w _ hx193_1)).trans hx193_1
                      replace hx193_2 := (HB.out.cell (World.block_lt_of_cell? w _ hx193_2)).trans hx193_2
                      replace hx193_3 := (HB.out.cell (World.block_lt_of_cell? w _ hx193_3)).trans hx193_3
                      replace p193 := eq_true p193
                      replace q193 := eq_true q193
                      go_wp2_with (first | ((with_reducible refine gate_dst (N := 9) rfl ?_); (try (refine gate_guard (by rfl) ?_; dsimp only)); refine box_event ?hg (N := 9) ?hd (cs := #[.int .i64 0, .int .i64 0, .int .i64 0, .int .i64 0]) (t := 71) ?hr ?_; (case hd => rfl); (case hg => rfl); (case hr => first | (go_simp; done) | (go_simp; rfl)); intro gb194 hg w87 hbox hb; have n0_ := Aside0.mk (blk_below (g := gb189) (o := .cells #[.int .i64 a0_0, .int .i64 a0_1, .int .i64 a0_2] 38 (0, 0)) (by (with_reducible repeat (first | refine blk_drewN ?_ _ | refine blk_drew ?_ | refine blk_alloc ?_ _)); exact BK189.out) hb); have n1_ := Aside0.mk (blk_below (g := gb191) (o := .cells #[.string ((rd_T68 l1 x46_2).f0), .int .i64 ((rd_T68 l1 x46_2).f1), .slice (some ad193) ((rd_T68 l1 x46_2).f2).length c190_2] 68 (0, 0)) (by (with_reducible repeat (first | refine blk_drewN ?_ _ | refine blk_drew ?_ | refine blk_alloc ?_ _)); exact BK191.out) hb); have n2_ := Aside0.mk (below_step (by repeat (first | (with_reducible first | exact HB.out | apply below_alloc | apply pw_below_drewN | apply below_drew1 | refine below_set ?_ GE189.out | refine below_set ?_ GE191.out) | exact HB.out)) hb); have n3_ := Aside0.mk (hbox); have n4_ := Aside0.mk ((by rw [hg]; exact (below_size (by repeat (first | (with_reducible first | exact HB.out | apply below_alloc | apply pw_below_drewN | apply below_drew1 | refine below_set ?_ GE189.out | refine below_set ?_ GE191.out) | exact HB.out))) : w.heap.size ≤ gb194)); have n5_ := Aside0.mk ((by rw [hg]; exact (below_size (by repeat (first | (with_reducible first | exact HB.out | apply below_alloc | apply pw_below_drewN | apply below_drew1 | refine below_set ?_ GE189.out | refine below_set ?_ GE191.out) | exact HB.out))) : w.heap.size ≤ gb194)); have n6_ := Aside0.mk ((by rw [hg]; exact Nat.ne_of_lt (blk_lt (g := gb189) (o := .cells #[.int .i64 a0_0, .int .i64 a0_1, .int .i64 a0_2] 38 (0, 0)) (by (with_reducible repeat (first | refine blk_drewN ?_ _ | refine blk_drew ?_ | refine blk_alloc ?_ _)); exact BK189.out)) : gb189 ≠ gb194)); have n7_ := Aside0.mk ((by rw [hg]; exact Nat.ne_of_gt (blk_lt (g := gb189) (o := .cells #[.int .i64 a0_0, .int .i64 a0_1, .int .i64 a0_2] 38 (0, 0)) (by (with_reducible repeat (first | refine blk_drewN ?_ _ | refine blk_drew ?_ | refine blk_alloc ?_ _)); exact BK189.out)) : gb194 ≠ gb189)); have n8_ := Aside0.mk ((by rw [hg]; exact Nat.ne_of_lt (blk_lt (g := gb191) (o := .cells #[.string ((rd_T68 l1 x46_2).f0), .int .i64 ((rd_T68 l1 x46_2).f1), .slice (some ad193) ((rd_T68 l1 x46_2).f2).length c190_2] 68 (0, 0)) (by (with_reducible repeat (first | refine blk_drewN ?_ _ | refine blk_drew ?_ | refine blk_alloc ?_ _)); exact BK191.out)) : gb191 ≠ gb194)); have n9_ := Aside0.mk ((by rw [hg]; exact Nat.ne_of_gt (blk_lt (g := gb191) (o := .cells #[.string ((rd_T68 l1 x46_2).f0), .int .i64 ((rd_T68 l1 x46_2).f1), .slice (some ad193) ((rd_T68 l1 x46_2).f2).length c190_2] 68 (0, 0)) (by (with_reducible repeat (first | refine blk_drewN ?_ _ | refine blk_drew ?_ | refine blk_alloc ?_ _)); exact BK191.out)) : gb194 ≠ gb191)); clear BK189; clear BK191; clear HB; have BK189 := n0_; have BK191 := n1_; have HB := n2_; have BK194 := n3_; have GW194 := n4_; have GE194 := n5_; have NB189_194 := n6_; have NB194_189 := n7_; have NB191_194 := n8_; have NB194_191 := n9_; clear n0_ n1_ n2_ n3_ n4_ n5_ n6_ n7_ n8_ n9_; have m0_ := Aside0.mk (blk_below (g := BM) (o := om) (by (with_reducible repeat (first | refine blk_drewN ?_ _ | refine blk_drew ?_ | refine blk_alloc ?_ _ | refine obj_far ?_ GNE189.out _ | refine obj_far ?_ GNE191.out _ | refine obj_far ?_ GNE194.out _)); exact BKM.out) hb); have m1_ := Aside0.mk (show BM ≠ gb194 from Nat.ne_of_lt (by rw [hg]; exact blk_lt (o := om) (by (with_reducible repeat (first | refine blk_drewN ?_ _ | refine blk_drew ?_ | refine blk_alloc ?_ _ | refine obj_far ?_ GNE189.out _ | refine obj_far ?_ GNE191.out _ | refine obj_far ?_ GNE194.out _)); exact BKM.out))); clear BKM; have BKM := m0_; have GNE194 := m1_; clear m0_ m1_; clear hb hbox hg; have hnb88 := NB194_189.out; have hnc88 := NB189_194.out; have hnb89 := NB194_191.out; have hnc89 := NB191_194.out; have hcz90_0 : w87.cell? ⟨gb194, 0, none⟩ = some (.int .i64 0) := (blk_cell BK194.out 0).trans rfl; have hcz90_1 : w87.cell? ⟨gb194, 1, none⟩ = some (.int .i64 0) := (blk_cell BK194.out 1).trans rfl; have hcz90_2 : w87.cell? ⟨gb194, 2, none⟩ = some (.int .i64 0) := (blk_cell BK194.out 2).trans rfl; have hcz90_3 : w87.cell? ⟨gb194, 3, none⟩ = some (.int .i64 0) := (blk_cell BK194.out 3).trans rfl; have hfz90_0 := blk_frozen BK194.out 0; have hfz90_1 := blk_frozen BK194.out 1; have hfz90_2 := blk_frozen BK194.out 2; have hfz90_3 := blk_frozen BK194.out 3; have hnb91 := NB189_191.out; have hnc91 := NB191_189.out; have hcz92_0 : w87.cell? ⟨gb189, 0, none⟩ = some (.int .i64 a0_0) := (blk_cell BK189.out 0).trans rfl; have hcz92_1 : w87.cell? ⟨gb189, 1, none⟩ = some (.int .i64 a0_1) := (blk_cell BK189.out 1).trans rfl; have hcz92_2 : w87.cell? ⟨gb189, 2, none⟩ = some (.int .i64 a0_2) := (blk_cell BK189.out 2).trans rfl; have hfz92_0 := blk_frozen BK189.out 0; have hfz92_1 := blk_frozen BK189.out 1; have hfz92_2 := blk_frozen BK189.out 2) | ((with_reducible refine gate_ (Op.lookup 73 (.tmp 55) (.tmp 57) false) rfl ?_); (try (refine gate_guard (by rfl) ?_; dsimp only)); refine wpList_lookup_seen rfl rfl Tryd.underlying9 Tryd.underlying73 Tryd.underlying4 (by kernel_rfl) BM x5_2 om (by (with_reducible repeat (first | refine blk_drewN ?_ _ | refine blk_drew ?_ | refine blk_alloc ?_ _ | refine obj_far ?_ GNE189.out _ | refine obj_far ?_ GNE191.out _ | refine obj_far ?_ GNE194.out _)); exact BKM.out) HS.out ((rd_T68 l1 x46_2).f0) KS.out rfl rfl ?_; (try rw [c27b0])) | ((with_reducible refine gate_ (Op.mapUpdate 73 (.tmp 82) (.tmp 84) (.const (.bool true))) rfl ?_); refine wpList_update_seen rfl rfl Tryd.underlying9 Tryd.underlying73 Tryd.underlying4 BM x5_2 om (by (with_reducible repeat (first | refine blk_drewN ?_ _ | refine blk_drew ?_ | refine blk_alloc ?_ _ | refine obj_far ?_ GNE189.out _ | refine obj_far ?_ GNE191.out _ | refine obj_far ?_ GNE194.out _)); exact BKM.out) HS.out ((rd_T68 l1 x46_2).f0) KS.out KL.out rfl rfl rfl ?_; intro wm2 hsm2 hgr2; have n0_ := Aside0.mk (pw_below_grown (by repeat (first | (with_reducible first | exact HB.out | apply below_alloc | apply pw_below_drewN | apply below_drew1 | refine below_set ?_ GE189.out | refine below_set ?_ GE191.out | refine below_set ?_ GE194.out) | exact HB.out)) (some BM) (below_size (by repeat (first | (with_reducible first | exact HB.out | apply below_alloc | apply pw_below_drewN | apply below_drew1 | refine below_set ?_ GE189.out | refine below_set ?_ GE191.out | refine below_set ?_ GE194.out) | exact HB.out))) hgr2 (fun k_ hk_ => by cases hk_; exact HBM.out)); (try (have b_ := Aside0.mk (blk_grown (g := gb189) (o := _) (by (with_reducible repeat (first | refine blk_drewN ?_ _ | refine blk_drew ?_ | refine blk_alloc ?_ _ | refine blk_put (g := gb189) ?_ _ _ rfl | refine obj_far ?_ (NB189_191.out) _ | refine obj_far ?_ (NB189_194.out) _)); exact BK189.out) hgr2 (fun e_ => GNE189.out (Option.some.inj e_).symm)); clear BK189; have BK189 := b_; clear b_)); (try (have hzm189_0 : wm2.cell? ⟨gb189, 0, none⟩ = some (.int .i64 a0_0) := (blk_cell BK189.out 0).trans rfl)); (try (have hfm189_0 := blk_frozen BK189.out 0)); (try (have hzm189_1 : wm2.cell? ⟨gb189, 1, none⟩ = some (.int .i64 a0_1) := (blk_cell BK189.out 1).trans rfl)); (try (have hfm189_1 := blk_frozen BK189.out 1)); (try (have hzm189_2 : wm2.cell? ⟨gb189, 2, none⟩ = some (.int .i64 a0_2) := (blk_cell BK189.out 2).trans rfl)); (try (have hfm189_2 := blk_frozen BK189.out 2)); (try (have b_ := Aside0.mk (blk_grown (g := gb191) (o := _) (by (with_reducible repeat (first | refine blk_drewN ?_ _ | refine blk_drew ?_ | refine blk_alloc ?_ _ | refine blk_put (g := gb191) ?_ _ _ rfl | refine obj_far ?_ (NB191_189.out) _ | refine obj_far ?_ (NB191_194.out) _)); exact BK191.out) hgr2 (fun e_ => GNE191.out (Option.some.inj e_).symm)); clear BK191; have BK191 := b_; clear b_)); (try (have hzm191_0 : wm2.cell? ⟨gb191, 0, none⟩ = some (.string ((rd_T68 l1 x46_2).f0)) := (blk_cell BK191.out 0).trans rfl)); (try (have hfm191_0 := blk_frozen BK191.out 0)); (try (have hzm191_1 : wm2.cell? ⟨gb191, 1, none⟩ = some (.int .i64 ((rd_T68 l1 x46_2).f1)) := (blk_cell BK191.out 1).trans rfl)); (try (have hfm191_1 := blk_frozen BK191.out 1)); (try (have hzm191_2 : wm2.cell? ⟨gb191, 2, none⟩ = some ((.slice A190_2 ((rd_T68 l1 x46_2).f2).length c190_2)) := (blk_cell BK191.out 2).trans rfl)); (try (have hfm191_2 := blk_frozen BK191.out 2)); (try (have b_ := Aside0.mk (blk_grown (g := gb194) (o := _) (by (with_reducible repeat (first | refine blk_drewN ?_ _ | refine blk_drew ?_ | refine blk_alloc ?_ _ | refine blk_put (g := gb194) ?_ _ _ rfl | refine obj_far ?_ (NB194_189.out) _ | refine obj_far ?_ (NB194_191.out) _)); exact BK194.out) hgr2 (fun e_ => GNE194.out (Option.some.inj e_).symm)); clear BK194; have BK194 := b_; clear b_)); clear HB; have HB := n0_; clear n0_; clear BKM HS; obtain ⟨om, hom2, hos2⟩ := hsm2; have BKM := Aside0.mk hom2; have HS := Aside0.mk hos2; clear hom2 hos2 hgr2))
                      go_ret
                      exact ⟨by first | rfl | (simp [errW_none, errW_some] <;> rfl) | (simp [*, errW_none, errW_some] <;> rfl), by repeat (first | (with_reducible first | exact HB.out | apply below_alloc | apply pw_below_drewN | apply below_drew1 | refine below_set ?_ GE189.out | refine below_set ?_ GE191.out | refine below_set ?_ GE194.out) | exact HB.out)⟩
                     ·rw [if_neg c86] at H
                      have c86b0 : decide (((rd_T71 ((rd_T68 l1 x46_2).f2) x88_4).f2) < 0) = false := decide_eq_false c86
                      clear c86
                      by_cases c93 : ((rd_T71 ((rd_T68 l1 x46_2).f2) x88_4).f2) > 9
                      ·rw [if_pos c93] at H
                       have c93b0 : decide (9 < ((rd_T71 ((rd_T68 l1 x46_2).f2) x88_4).f2)) = true := decide_eq_true c93
                       clear c93
                       obtain rfl := Option.some.inj H
                       have p193 : 0 ≤ (x88_4 : Int) := of_decide_eq_true (by first | (with_reducible assumption) | assumption)
                       have q193 : x88_4 < (((rd_T68 l1 x46_2).f2).length : Int) := of_decide_eq_true (by first | (with_reducible assumption) | assumption)
                       obtain ⟨ad193, e193, hx193_0, hx193_1, hx193_2, hx193_3⟩ := at_T71 HR190_2.out x88_4 p193 q193
                       cases e193
                       replace hx193_0 := (HB.out.cell (World.block_lt_of_cell? w _ hx193_0)).trans hx193_0
                       replace hx193_1 := (HB.out.cell (World.block_lt_of_cell? w _ hx193_1)).trans hx193_1
                       replace hx193_2 := (HB.out.cell (World.block_lt_of_cell? w _ hx193_2)).trans hx193_2
                       replace hx193_3 := (HB.out.cell (World.block_lt_of_cell? w _ hx193_3)).trans hx193_3
                       replace p193 := eq_true p193
                       replace q193 := eq_true q193
                       go_wp2_with (first | ((with_reducible refine gate_dst (N := 9) rfl ?_); (try (refine gate_guard (by rfl) ?_; dsimp only)); refine box_event ?hg (N := 9) ?hd (cs := #[.int .i64 0, .int .i64 0, .int .i64 0, .int .i64 0]) (t := 71) ?hr ?_; (case hd => rfl); (case hg => rfl); (case hr => first | (go_simp; done) | (go_simp; rfl)); intro gb194 hg w94 hbox hb; have n0_ := Aside0.mk (blk_below (g := gb189) (o := .cells #[.int .i64 a0_0, .int .i64 a0_1, .int .i64 a0_2] 38 (0, 0)) (by (with_reducible repeat (first | refine blk_drewN ?_ _ | refine blk_drew ?_ | refine blk_alloc ?_ _)); exact BK189.out) hb); have n1_ := Aside0.mk (blk_below (g := gb191) (o := .cells #[.string ((rd_T68 l1 x46_2).f0), .int .i64 ((rd_T68 l1 x46_2).f1), .slice (some ad193) ((rd_T68 l1 x46_2).f2).length c190_2] 68 (0, 0)) (by (with_reducible repeat (first | refine blk_drewN ?_ _ | refine blk_drew ?_ | refine blk_alloc ?_ _)); exact BK191.out) hb); have n2_ := Aside0.mk (below_step (by repeat (first | (with_reducible first | exact HB.out | apply below_alloc | apply pw_below_drewN | apply below_drew1 | refine below_set ?_ GE189.out | refine below_set ?_ GE191.out) | exact HB.out)) hb); have n3_ := Aside0.mk (hbox); have n4_ := Aside0.mk ((by rw [hg]; exact (below_size (by repeat (first | (with_reducible first | exact HB.out | apply below_alloc | apply pw_below_drewN | apply below_drew1 | refine below_set ?_ GE189.out | refine below_set ?_ GE191.out) | exact HB.out))) : w.heap.size ≤ gb194)); have n5_ := Aside0.mk ((by rw [hg]; exact (below_size (by repeat (first | (with_reducible first | exact HB.out | apply below_alloc | apply pw_below_drewN | apply below_drew1 | refine below_set ?_ GE189.out | refine below_set ?_ GE191.out) | exact HB.out))) : w.heap.size ≤ gb194)); have n6_ := Aside0.mk ((by rw [hg]; exact Nat.ne_of_lt (blk_lt (g := gb189) (o := .cells #[.int .i64 a0_0, .int .i64 a0_1, .int .i64 a0_2] 38 (0, 0)) (by (with_reducible repeat (first | refine blk_drewN ?_ _ | refine blk_drew ?_ | refine blk_alloc ?_ _)); exact BK189.out)) : gb189 ≠ gb194)); have n7_ := Aside0.mk ((by rw [hg]; exact Nat.ne_of_gt (blk_lt (g := gb189) (o := .cells #[.int .i64 a0_0, .int .i64 a0_1, .int .i64 a0_2] 38 (0, 0)) (by (with_reducible repeat (first | refine blk_drewN ?_ _ | refine blk_drew ?_ | refine blk_alloc ?_ _)); exact BK189.out)) : gb194 ≠ gb189)); have n8_ := Aside0.mk ((by rw [hg]; exact Nat.ne_of_lt (blk_lt (g := gb191) (o := .cells #[.string ((rd_T68 l1 x46_2).f0), .int .i64 ((rd_T68 l1 x46_2).f1), .slice (some ad193) ((rd_T68 l1 x46_2).f2).length c190_2] 68 (0, 0)) (by (with_reducible repeat (first | refine blk_drewN ?_ _ | refine blk_drew ?_ | refine blk_alloc ?_ _)); exact BK191.out)) : gb191 ≠ gb194)); have n9_ := Aside0.mk ((by rw [hg]; exact Nat.ne_of_gt (blk_lt (g := gb191) (o := .cells #[.string ((rd_T68 l1 x46_2).f0), .int .i64 ((rd_T68 l1 x46_2).f1), .slice (some ad193) ((rd_T68 l1 x46_2).f2).length c190_2] 68 (0, 0)) (by (with_reducible repeat (first | refine blk_drewN ?_ _ | refine blk_drew ?_ | refine blk_alloc ?_ _)); exact BK191.out)) : gb194 ≠ gb191)); clear BK189; clear BK191; clear HB; have BK189 := n0_; have BK191 := n1_; have HB := n2_; have BK194 := n3_; have GW194 := n4_; have GE194 := n5_; have NB189_194 := n6_; have NB194_189 := n7_; have NB191_194 := n8_; have NB194_191 := n9_; clear n0_ n1_ n2_ n3_ n4_ n5_ n6_ n7_ n8_ n9_; have m0_ := Aside0.mk (blk_below (g := BM) (o := om) (by (with_reducible repeat (first | refine blk_drewN ?_ _ | refine blk_drew ?_ | refine blk_alloc ?_ _ | refine obj_far ?_ GNE189.out _ | refine obj_far ?_ GNE191.out _ | refine obj_far ?_ GNE194.out _)); exact BKM.out) hb); have m1_ := Aside0.mk (show BM ≠ gb194 from Nat.ne_of_lt (by rw [hg]; exact blk_lt (o := om) (by (with_reducible repeat (first | refine blk_drewN ?_ _ | refine blk_drew ?_ | refine blk_alloc ?_ _ | refine obj_far ?_ GNE189.out _ | refine obj_far ?_ GNE191.out _ | refine obj_far ?_ GNE194.out _)); exact BKM.out))); clear BKM; have BKM := m0_; have GNE194 := m1_; clear m0_ m1_; clear hb hbox hg; have hnb95 := NB194_189.out; have hnc95 := NB189_194.out; have hnb96 := NB194_191.out; have hnc96 := NB191_194.out; have hcz97_0 : w94.cell? ⟨gb194, 0, none⟩ = some (.int .i64 0) := (blk_cell BK194.out 0).trans rfl; have hcz97_1 : w94.cell? ⟨gb194, 1, none⟩ = some (.int .i64 0) := (blk_cell BK194.out 1).trans rfl; have hcz97_2 : w94.cell? ⟨gb194, 2, none⟩ = some (.int .i64 0) := (blk_cell BK194.out 2).trans rfl; have hcz97_3 : w94.cell? ⟨gb194, 3, none⟩ = some (.int .i64 0) := (blk_cell BK194.out 3).trans rfl; have hfz97_0 := blk_frozen BK194.out 0; have hfz97_1 := blk_frozen BK194.out 1; have hfz97_2 := blk_frozen BK194.out 2; have hfz97_3 := blk_frozen BK194.out 3; have hnb98 := NB189_191.out; have hnc98 := NB191_189.out; have hcz99_0 : w94.cell? ⟨gb189, 0, none⟩ = some (.int .i64 a0_0) := (blk_cell BK189.out 0).trans rfl; have hcz99_1 : w94.cell? ⟨gb189, 1, none⟩ = some (.int .i64 a0_1) := (blk_cell BK189.out 1).trans rfl; have hcz99_2 : w94.cell? ⟨gb189, 2, none⟩ = some (.int .i64 a0_2) := (blk_cell BK189.out 2).trans rfl; have hfz99_0 := blk_frozen BK189.out 0; have hfz99_1 := blk_frozen BK189.out 1; have hfz99_2 := blk_frozen BK189.out 2) | ((with_reducible refine gate_ (Op.lookup 73 (.tmp 55) (.tmp 57) false) rfl ?_); (try (refine gate_guard (by rfl) ?_; dsimp only)); refine wpList_lookup_seen rfl rfl Tryd.underlying9 Tryd.underlying73 Tryd.underlying4 (by kernel_rfl) BM x5_2 om (by (with_reducible repeat (first | refine blk_drewN ?_ _ | refine blk_drew ?_ | refine blk_alloc ?_ _ | refine obj_far ?_ GNE189.out _ | refine obj_far ?_ GNE191.out _ | refine obj_far ?_ GNE194.out _)); exact BKM.out) HS.out ((rd_T68 l1 x46_2).f0) KS.out rfl rfl ?_; (try rw [c27b0])) | ((with_reducible refine gate_ (Op.mapUpdate 73 (.tmp 82) (.tmp 84) (.const (.bool true))) rfl ?_); refine wpList_update_seen rfl rfl Tryd.underlying9 Tryd.underlying73 Tryd.underlying4 BM x5_2 om (by (with_reducible repeat (first | refine blk_drewN ?_ _ | refine blk_drew ?_ | refine blk_alloc ?_ _ | refine obj_far ?_ GNE189.out _ | refine obj_far ?_ GNE191.out _ | refine obj_far ?_ GNE194.out _)); exact BKM.out) HS.out ((rd_T68 l1 x46_2).f0) KS.out KL.out rfl rfl rfl ?_; intro wm2 hsm2 hgr2; have n0_ := Aside0.mk (pw_below_grown (by repeat (first | (with_reducible first | exact HB.out | apply below_alloc | apply pw_below_drewN | apply below_drew1 | refine below_set ?_ GE189.out | refine below_set ?_ GE191.out | refine below_set ?_ GE194.out) | exact HB.out)) (some BM) (below_size (by repeat (first | (with_reducible first | exact HB.out | apply below_alloc | apply pw_below_drewN | apply below_drew1 | refine below_set ?_ GE189.out | refine below_set ?_ GE191.out | refine below_set ?_ GE194.out) | exact HB.out))) hgr2 (fun k_ hk_ => by cases hk_; exact HBM.out)); (try (have b_ := Aside0.mk (blk_grown (g := gb189) (o := _) (by (with_reducible repeat (first | refine blk_drewN ?_ _ | refine blk_drew ?_ | refine blk_alloc ?_ _ | refine blk_put (g := gb189) ?_ _ _ rfl | refine obj_far ?_ (NB189_191.out) _ | refine obj_far ?_ (NB189_194.out) _)); exact BK189.out) hgr2 (fun e_ => GNE189.out (Option.some.inj e_).symm)); clear BK189; have BK189 := b_; clear b_)); (try (have hzm189_0 : wm2.cell? ⟨gb189, 0, none⟩ = some (.int .i64 a0_0) := (blk_cell BK189.out 0).trans rfl)); (try (have hfm189_0 := blk_frozen BK189.out 0)); (try (have hzm189_1 : wm2.cell? ⟨gb189, 1, none⟩ = some (.int .i64 a0_1) := (blk_cell BK189.out 1).trans rfl)); (try (have hfm189_1 := blk_frozen BK189.out 1)); (try (have hzm189_2 : wm2.cell? ⟨gb189, 2, none⟩ = some (.int .i64 a0_2) := (blk_cell BK189.out 2).trans rfl)); (try (have hfm189_2 := blk_frozen BK189.out 2)); (try (have b_ := Aside0.mk (blk_grown (g := gb191) (o := _) (by (with_reducible repeat (first | refine blk_drewN ?_ _ | refine blk_drew ?_ | refine blk_alloc ?_ _ | refine blk_put (g := gb191) ?_ _ _ rfl | refine obj_far ?_ (NB191_189.out) _ | refine obj_far ?_ (NB191_194.out) _)); exact BK191.out) hgr2 (fun e_ => GNE191.out (Option.some.inj e_).symm)); clear BK191; have BK191 := b_; clear b_)); (try (have hzm191_0 : wm2.cell? ⟨gb191, 0, none⟩ = some (.string ((rd_T68 l1 x46_2).f0)) := (blk_cell BK191.out 0).trans rfl)); (try (have hfm191_0 := blk_frozen BK191.out 0)); (try (have hzm191_1 : wm2.cell? ⟨gb191, 1, none⟩ = some (.int .i64 ((rd_T68 l1 x46_2).f1)) := (blk_cell BK191.out 1).trans rfl)); (try (have hfm191_1 := blk_frozen BK191.out 1)); (try (have hzm191_2 : wm2.cell? ⟨gb191, 2, none⟩ = some ((.slice A190_2 ((rd_T68 l1 x46_2).f2).length c190_2)) := (blk_cell BK191.out 2).trans rfl)); (try (have hfm191_2 := blk_frozen BK191.out 2)); (try (have b_ := Aside0.mk (blk_grown (g := gb194) (o := _) (by (with_reducible repeat (first | refine blk_drewN ?_ _ | refine blk_drew ?_ | refine blk_alloc ?_ _ | refine blk_put (g := gb194) ?_ _ _ rfl | refine obj_far ?_ (NB194_189.out) _ | refine obj_far ?_ (NB194_191.out) _)); exact BK194.out) hgr2 (fun e_ => GNE194.out (Option.some.inj e_).symm)); clear BK194; have BK194 := b_; clear b_)); clear HB; have HB := n0_; clear n0_; clear BKM HS; obtain ⟨om, hom2, hos2⟩ := hsm2; have BKM := Aside0.mk hom2; have HS := Aside0.mk hos2; clear hom2 hos2 hgr2))
                       go_ret
                       exact ⟨by first | rfl | (simp [errW_none, errW_some] <;> rfl) | (simp [*, errW_none, errW_some] <;> rfl), by repeat (first | (with_reducible first | exact HB.out | apply below_alloc | apply pw_below_drewN | apply below_drew1 | refine below_set ?_ GE189.out | refine below_set ?_ GE191.out | refine below_set ?_ GE194.out) | exact HB.out)⟩
                      ·rw [if_neg c93] at H
                       have c93b0 : decide (9 < ((rd_T71 ((rd_T68 l1 x46_2).f2) x88_4).f2)) = false := decide_eq_false c93
                       clear c93
                       by_cases c100 : ((rd_T71 ((rd_T68 l1 x46_2).f2) x88_4).f3) < 0
                       ·rw [if_pos c100] at H
                        have c100b0 : decide (((rd_T71 ((rd_T68 l1 x46_2).f2) x88_4).f3) < 0) = true := decide_eq_true c100
                        clear c100
                        obtain rfl := Option.some.inj H
                        have p193 : 0 ≤ (x88_4 : Int) := of_decide_eq_true (by first | (with_reducible assumption) | assumption)
                        have q193 : x88_4 < (((rd_T68 l1 x46_2).f2).length : Int) := of_decide_eq_true (by first | (with_reducible assumption) | assumption)
                        obtain ⟨ad193, e193, hx193_0, hx193_1, hx193_2, hx193_3⟩ := at_T71 HR190_2.out x88_4 p193 q193
                        cases e193
                        replace hx193_0 := (HB.out.cell (World.block_lt_of_cell? w _ hx193_0)).trans hx193_0
                        replace hx193_1 := (HB.out.cell (World.block_lt_of_cell? w _ hx193_1)).trans hx193_1
                        replace hx193_2 := (HB.out.cell (World.block_lt_of_cell? w _ hx193_2)).trans hx193_2
                        replace hx193_3 := (HB.out.cell (World.block_lt_of_cell? w _ hx193_3)).trans hx193_3
                        replace p193 := eq_true p193
                        replace q193 := eq_true q193
                        go_wp2_with (first | ((with_reducible refine gate_dst (N := 9) rfl ?_); (try (refine gate_guard (by rfl) ?_; dsimp only)); refine box_event ?hg (N := 9) ?hd (cs := #[.int .i64 0, .int .i64 0, .int .i64 0, .int .i64 0]) (t := 71) ?hr ?_; (case hd => rfl); (case hg => rfl); (case hr => first | (go_simp; done) | (go_simp; rfl)); intro gb194 hg w101 hbox hb; have n0_ := Aside0.mk (blk_below (g := gb189) (o := .cells #[.int .i64 a0_0, .int .i64 a0_1, .int .i64 a0_2] 38 (0, 0)) (by (with_reducible repeat (first | refine blk_drewN ?_ _ | refine blk_drew ?_ | refine blk_alloc ?_ _)); exact BK189.out) hb); have n1_ := Aside0.mk (blk_below (g := gb191) (o := .cells #[.string ((rd_T68 l1 x46_2).f0), .int .i64 ((rd_T68 l1 x46_2).f1), .slice (some ad193) ((rd_T68 l1 x46_2).f2).length c190_2] 68 (0, 0)) (by (with_reducible repeat (first | refine blk_drewN ?_ _ | refine blk_drew ?_ | refine blk_alloc ?_ _)); exact BK191.out) hb); have n2_ := Aside0.mk (below_step (by repeat (first | (with_reducible first | exact HB.out | apply below_alloc | apply pw_below_drewN | apply below_drew1 | refine below_set ?_ GE189.out | refine below_set ?_ GE191.out) | exact HB.out)) hb); have n3_ := Aside0.mk (hbox); have n4_ := Aside0.mk ((by rw [hg]; exact (below_size (by repeat (first | (with_reducible first | exact HB.out | apply below_alloc | apply pw_below_drewN | apply below_drew1 | refine below_set ?_ GE189.out | refine below_set ?_ GE191.out) | exact HB.out))) : w.heap.size ≤ gb194)); have n5_ := Aside0.mk ((by rw [hg]; exact (below_size (by repeat (first | (with_reducible first | exact HB.out | apply below_alloc | apply pw_below_drewN | apply below_drew1 | refine below_set ?_ GE189.out | refine below_set ?_ GE191.out) | exact HB.out))) : w.heap.size ≤ gb194)); have n6_ := Aside0.mk ((by rw [hg]; exact Nat.ne_of_lt (blk_lt (g := gb189) (o := .cells #[.int .i64 a0_0, .int .i64 a0_1, .int .i64 a0_2] 38 (0, 0)) (by (with_reducible repeat (first | refine blk_drewN ?_ _ | refine blk_drew ?_ | refine blk_alloc ?_ _)); exact BK189.out)) : gb189 ≠ gb194)); have n7_ := Aside0.mk ((by rw [hg]; exact Nat.ne_of_gt (blk_lt (g := gb189) (o := .cells #[.int .i64 a0_0, .int .i64 a0_1, .int .i64 a0_2] 38 (0, 0)) (by (with_reducible repeat (first | refine blk_drewN ?_ _ | refine blk_drew ?_ | refine blk_alloc ?_ _)); exact BK189.out)) : gb194 ≠ gb189)); have n8_ := Aside0.mk ((by rw [hg]; exact Nat.ne_of_lt (blk_lt (g := gb191) (o := .cells #[.string ((rd_T68 l1 x46_2).f0), .int .i64 ((rd_T68 l1 x46_2).f1), .slice (some ad193) ((rd_T68 l1 x46_2).f2).length c190_2] 68 (0, 0)) (by (with_reducible repeat (first | refine blk_drewN ?_ _ | refine blk_drew ?_ | refine blk_alloc ?_ _)); exact BK191.out)) : gb191 ≠ gb194)); have n9_ := Aside0.mk ((by rw [hg]; exact Nat.ne_of_gt (blk_lt (g := gb191) (o := .cells #[.string ((rd_T68 l1 x46_2).f0), .int .i64 ((rd_T68 l1 x46_2).f1), .slice (some ad193) ((rd_T68 l1 x46_2).f2).length c190_2] 68 (0, 0)) (by (with_reducible repeat (first | refine blk_drewN ?_ _ | refine blk_drew ?_ | refine blk_alloc ?_ _)); exact BK191.out)) : gb194 ≠ gb191)); clear BK189; clear BK191; clear HB; have BK189 := n0_; have BK191 := n1_; have HB := n2_; have BK194 := n3_; have GW194 := n4_; have GE194 := n5_; have NB189_194 := n6_; have NB194_189 := n7_; have NB191_194 := n8_; have NB194_191 := n9_; clear n0_ n1_ n2_ n3_ n4_ n5_ n6_ n7_ n8_ n9_; have m0_ := Aside0.mk (blk_below (g := BM) (o := om) (by (with_reducible repeat (first | refine blk_drewN ?_ _ | refine blk_drew ?_ | refine blk_alloc ?_ _ | refine obj_far ?_ GNE189.out _ | refine obj_far ?_ GNE191.out _ | refine obj_far ?_ GNE194.out _)); exact BKM.out) hb); have m1_ := Aside0.mk (show BM ≠ gb194 from Nat.ne_of_lt (by rw [hg]; exact blk_lt (o := om) (by (with_reducible repeat (first | refine blk_drewN ?_ _ | refine blk_drew ?_ | refine blk_alloc ?_ _ | refine obj_far ?_ GNE189.out _ | refine obj_far ?_ GNE191.out _ | refine obj_far ?_ GNE194.out _)); exact BKM.out))); clear BKM; have BKM := m0_; have GNE194 := m1_; clear m0_ m1_; clear hb hbox hg; have hnb102 := NB194_189.out; have hnc102 := NB189_194.out; have hnb103 := NB194_191.out; have hnc103 := NB191_194.out; have hcz104_0 : w101.cell? ⟨gb194, 0, none⟩ = some (.int .i64 0) := (blk_cell BK194.out 0).trans rfl; have hcz104_1 : w101.cell? ⟨gb194, 1, none⟩ = some (.int .i64 0) := (blk_cell BK194.out 1).trans rfl; have hcz104_2 : w101.cell? ⟨gb194, 2, none⟩ = some (.int .i64 0) := (blk_cell BK194.out 2).trans rfl; have hcz104_3 : w101.cell? ⟨gb194, 3, none⟩ = some (.int .i64 0) := (blk_cell BK194.out 3).trans rfl; have hfz104_0 := blk_frozen BK194.out 0; have hfz104_1 := blk_frozen BK194.out 1; have hfz104_2 := blk_frozen BK194.out 2; have hfz104_3 := blk_frozen BK194.out 3; have hnb105 := NB189_191.out; have hnc105 := NB191_189.out; have hcz106_0 : w101.cell? ⟨gb189, 0, none⟩ = some (.int .i64 a0_0) := (blk_cell BK189.out 0).trans rfl; have hcz106_1 : w101.cell? ⟨gb189, 1, none⟩ = some (.int .i64 a0_1) := (blk_cell BK189.out 1).trans rfl; have hcz106_2 : w101.cell? ⟨gb189, 2, none⟩ = some (.int .i64 a0_2) := (blk_cell BK189.out 2).trans rfl; have hfz106_0 := blk_frozen BK189.out 0; have hfz106_1 := blk_frozen BK189.out 1; have hfz106_2 := blk_frozen BK189.out 2) | ((with_reducible refine gate_ (Op.lookup 73 (.tmp 55) (.tmp 57) false) rfl ?_); (try (refine gate_guard (by rfl) ?_; dsimp only)); refine wpList_lookup_seen rfl rfl Tryd.underlying9 Tryd.underlying73 Tryd.underlying4 (by kernel_rfl) BM x5_2 om (by (with_reducible repeat (first | refine blk_drewN ?_ _ | refine blk_drew ?_ | refine blk_alloc ?_ _ | refine obj_far ?_ GNE189.out _ | refine obj_far ?_ GNE191.out _ | refine obj_far ?_ GNE194.out _)); exact BKM.out) HS.out ((rd_T68 l1 x46_2).f0) KS.out rfl rfl ?_; (try rw [c27b0])) | ((with_reducible refine gate_ (Op.mapUpdate 73 (.tmp 82) (.tmp 84) (.const (.bool true))) rfl ?_); refine wpList_update_seen rfl rfl Tryd.underlying9 Tryd.underlying73 Tryd.underlying4 BM x5_2 om (by (with_reducible repeat (first | refine blk_drewN ?_ _ | refine blk_drew ?_ | refine blk_alloc ?_ _ | refine obj_far ?_ GNE189.out _ | refine obj_far ?_ GNE191.out _ | refine obj_far ?_ GNE194.out _)); exact BKM.out) HS.out ((rd_T68 l1 x46_2).f0) KS.out KL.out rfl rfl rfl ?_; intro wm2 hsm2 hgr2; have n0_ := Aside0.mk (pw_below_grown (by repeat (first | (with_reducible first | exact HB.out | apply below_alloc | apply pw_below_drewN | apply below_drew1 | refine below_set ?_ GE189.out | refine below_set ?_ GE191.out | refine below_set ?_ GE194.out) | exact HB.out)) (some BM) (below_size (by repeat (first | (with_reducible first | exact HB.out | apply below_alloc | apply pw_below_drewN | apply below_drew1 | refine below_set ?_ GE189.out | refine below_set ?_ GE191.out | refine below_set ?_ GE194.out) | exact HB.out))) hgr2 (fun k_ hk_ => by cases hk_; exact HBM.out)); (try (have b_ := Aside0.mk (blk_grown (g := gb189) (o := _) (by (with_reducible repeat (first | refine blk_drewN ?_ _ | refine blk_drew ?_ | refine blk_alloc ?_ _ | refine blk_put (g := gb189) ?_ _ _ rfl | refine obj_far ?_ (NB189_191.out) _ | refine obj_far ?_ (NB189_194.out) _)); exact BK189.out) hgr2 (fun e_ => GNE189.out (Option.some.inj e_).symm)); clear BK189; have BK189 := b_; clear b_)); (try (have hzm189_0 : wm2.cell? ⟨gb189, 0, none⟩ = some (.int .i64 a0_0) := (blk_cell BK189.out 0).trans rfl)); (try (have hfm189_0 := blk_frozen BK189.out 0)); (try (have hzm189_1 : wm2.cell? ⟨gb189, 1, none⟩ = some (.int .i64 a0_1) := (blk_cell BK189.out 1).trans rfl)); (try (have hfm189_1 := blk_frozen BK189.out 1)); (try (have hzm189_2 : wm2.cell? ⟨gb189, 2, none⟩ = some (.int .i64 a0_2) := (blk_cell BK189.out 2).trans rfl)); (try (have hfm189_2 := blk_frozen BK189.out 2)); (try (have b_ := Aside0.mk (blk_grown (g := gb191) (o := _) (by (with_reducible repeat (first | refine blk_drewN ?_ _ | refine blk_drew ?_ | refine blk_alloc ?_ _ | refine blk_put (g := gb191) ?_ _ _ rfl | refine obj_far ?_ (NB191_189.out) _ | refine obj_far ?_ (NB191_194.out) _)); exact BK191.out) hgr2 (fun e_ => GNE191.out (Option.some.inj e_).symm)); clear BK191; have BK191 := b_; clear b_)); (try (have hzm191_0 : wm2.cell? ⟨gb191, 0, none⟩ = some (.string ((rd_T68 l1 x46_2).f0)) := (blk_cell BK191.out 0).trans rfl)); (try (have hfm191_0 := blk_frozen BK191.out 0)); (try (have hzm191_1 : wm2.cell? ⟨gb191, 1, none⟩ = some (.int .i64 ((rd_T68 l1 x46_2).f1)) := (blk_cell BK191.out 1).trans rfl)); (try (have hfm191_1 := blk_frozen BK191.out 1)); (try (have hzm191_2 : wm2.cell? ⟨gb191, 2, none⟩ = some ((.slice A190_2 ((rd_T68 l1 x46_2).f2).length c190_2)) := (blk_cell BK191.out 2).trans rfl)); (try (have hfm191_2 := blk_frozen BK191.out 2)); (try (have b_ := Aside0.mk (blk_grown (g := gb194) (o := _) (by (with_reducible repeat (first | refine blk_drewN ?_ _ | refine blk_drew ?_ | refine blk_alloc ?_ _ | refine blk_put (g := gb194) ?_ _ _ rfl | refine obj_far ?_ (NB194_189.out) _ | refine obj_far ?_ (NB194_191.out) _)); exact BK194.out) hgr2 (fun e_ => GNE194.out (Option.some.inj e_).symm)); clear BK194; have BK194 := b_; clear b_)); clear HB; have HB := n0_; clear n0_; clear BKM HS; obtain ⟨om, hom2, hos2⟩ := hsm2; have BKM := Aside0.mk hom2; have HS := Aside0.mk hos2; clear hom2 hos2 hgr2))
                        go_ret
                        exact ⟨by first | rfl | (simp [errW_none, errW_some] <;> rfl) | (simp [*, errW_none, errW_some] <;> rfl), by repeat (first | (with_reducible first | exact HB.out | apply below_alloc | apply pw_below_drewN | apply below_drew1 | refine below_set ?_ GE189.out | refine below_set ?_ GE191.out | refine below_set ?_ GE194.out) | exact HB.out)⟩
                       ·rw [if_neg c100] at H
                        have c100b0 : decide (((rd_T71 ((rd_T68 l1 x46_2).f2) x88_4).f3) < 0) = false := decide_eq_false c100
                        clear c100
                        by_cases c107 : ((rd_T71 ((rd_T68 l1 x46_2).f2) x88_4).f3) > a0_2
                        ·rw [if_pos c107] at H
                         have c107b0 : decide (a0_2 < ((rd_T71 ((rd_T68 l1 x46_2).f2) x88_4).f3)) = true := decide_eq_true c107
                         clear c107
                         obtain rfl := Option.some.inj H
                         have p193 : 0 ≤ (x88_4 : Int) := of_decide_eq_true (by first | (with_reducible assumption) | assumption)
                         have q193 : x88_4 < (((rd_T68 l1 x46_2).f2).length : Int) := of_decide_eq_true (by first | (with_reducible assumption) | assumption)
                         obtain ⟨ad193, e193, hx193_0, hx193_1, hx193_2, hx193_3⟩ := at_T71 HR190_2.out x88_4 p193 q193
                         cases e193
                         replace hx193_0 := (HB.out.cell (World.block_lt_of_cell? w _ hx193_0)).trans hx193_0
                         replace hx193_1 := (HB.out.cell (World.block_lt_of_cell? w _ hx193_1)).trans hx193_1
                         replace hx193_2 := (HB.out.cell (World.block_lt_of_cell? w _ hx193_2)).trans hx193_2
                         replace hx193_3 := (HB.out.cell (World.block_lt_of_cell? w _ hx193_3)).trans hx193_3
                         replace p193 := eq_true p193
                         replace q193 := eq_true q193
                         go_wp2_with (first | ((with_reducible refine gate_dst (N := 9) rfl ?_); (try (refine gate_guard (by rfl) ?_; dsimp only)); refine box_event ?hg (N := 9) ?hd (cs := #[.int .i64 0, .int .i64 0, .int .i64 0, .int .i64 0]) (t := 71) ?hr ?_; (case hd => rfl); (case hg => rfl); (case hr => first | (go_simp; done) | (go_simp; rfl)); intro gb194 hg w108 hbox hb; have n0_ := Aside0.mk (blk_below (g := gb189) (o := .cells #[.int .i64 a0_0, .int .i64 a0_1, .int .i64 a0_2] 38 (0, 0)) (by (with_reducible repeat (first | refine blk_drewN ?_ _ | refine blk_drew ?_ | refine blk_alloc ?_ _)); exact BK189.out) hb); have n1_ := Aside0.mk (blk_below (g := gb191) (o := .cells #[.string ((rd_T68 l1 x46_2).f0), .int .i64 ((rd_T68 l1 x46_2).f1), .slice (some ad193) ((rd_T68 l1 x46_2).f2).length c190_2] 68 (0, 0)) (by (with_reducible repeat (first | refine blk_drewN ?_ _ | refine blk_drew ?_ | refine blk_alloc ?_ _)); exact BK191.out) hb); have n2_ := Aside0.mk (below_step (by repeat (first | (with_reducible first | exact HB.out | apply below_alloc | apply pw_below_drewN | apply below_drew1 | refine below_set ?_ GE189.out | refine below_set ?_ GE191.out) | exact HB.out)) hb); have n3_ := Aside0.mk (hbox); have n4_ := Aside0.mk ((by rw [hg]; exact (below_size (by repeat (first | (with_reducible first | exact HB.out | apply below_alloc | apply pw_below_drewN | apply below_drew1 | refine below_set ?_ GE189.out | refine below_set ?_ GE191.out) | exact HB.out))) : w.heap.size ≤ gb194)); have n5_ := Aside0.mk ((by rw [hg]; exact (below_size (by repeat (first | (with_reducible first | exact HB.out | apply below_alloc | apply pw_below_drewN | apply below_drew1 | refine below_set ?_ GE189.out | refine below_set ?_ GE191.out) | exact HB.out))) : w.heap.size ≤ gb194)); have n6_ := Aside0.mk ((by rw [hg]; exact Nat.ne_of_lt (blk_lt (g := gb189) (o := .cells #[.int .i64 a0_0, .int .i64 a0_1, .int .i64 a0_2] 38 (0, 0)) (by (with_reducible repeat (first | refine blk_drewN ?_ _ | refine blk_drew ?_ | refine blk_alloc ?_ _)); exact BK189.out)) : gb189 ≠ gb194)); have n7_ := Aside0.mk ((by rw [hg]; exact Nat.ne_of_gt (blk_lt (g := gb189) (o := .cells #[.int .i64 a0_0, .int .i64 a0_1, .int .i64 a0_2] 38 (0, 0)) (by (with_reducible repeat (first | refine blk_drewN ?_ _ | refine blk_drew ?_ | refine blk_alloc ?_ _)); exact BK189.out)) : gb194 ≠ gb189)); have n8_ := Aside0.mk ((by rw [hg]; exact Nat.ne_of_lt (blk_lt (g := gb191) (o := .cells #[.string ((rd_T68 l1 x46_2).f0), .int .i64 ((rd_T68 l1 x46_2).f1), .slice (some ad193) ((rd_T68 l1 x46_2).f2).length c190_2] 68 (0, 0)) (by (with_reducible repeat (first | refine blk_drewN ?_ _ | refine blk_drew ?_ | refine blk_alloc ?_ _)); exact BK191.out)) : gb191 ≠ gb194)); have n9_ := Aside0.mk ((by rw [hg]; exact Nat.ne_of_gt (blk_lt (g := gb191) (o := .cells #[.string ((rd_T68 l1 x46_2).f0), .int .i64 ((rd_T68 l1 x46_2).f1), .slice (some ad193) ((rd_T68 l1 x46_2).f2).length c190_2] 68 (0, 0)) (by (with_reducible repeat (first | refine blk_drewN ?_ _ | refine blk_drew ?_ | refine blk_alloc ?_ _)); exact BK191.out)) : gb194 ≠ gb191)); clear BK189; clear BK191; clear HB; have BK189 := n0_; have BK191 := n1_; have HB := n2_; have BK194 := n3_; have GW194 := n4_; have GE194 := n5_; have NB189_194 := n6_; have NB194_189 := n7_; have NB191_194 := n8_; have NB194_191 := n9_; clear n0_ n1_ n2_ n3_ n4_ n5_ n6_ n7_ n8_ n9_; have m0_ := Aside0.mk (blk_below (g := BM) (o := om) (by (with_reducible repeat (first | refine blk_drewN ?_ _ | refine blk_drew ?_ | refine blk_alloc ?_ _ | refine obj_far ?_ GNE189.out _ | refine obj_far ?_ GNE191.out _ | refine obj_far ?_ GNE194.out _)); exact BKM.out) hb); have m1_ := Aside0.mk (show BM ≠ gb194 from Nat.ne_of_lt (by rw [hg]; exact blk_lt (o := om) (by (with_reducible repeat (first | refine blk_drewN ?_ _ | refine blk_drew ?_ | refine blk_alloc ?_ _ | refine obj_far ?_ GNE189.out _ | refine obj_far ?_ GNE191.out _ | refine obj_far ?_ GNE194.out _)); exact BKM.out))); clear BKM; have BKM := m0_; have GNE194 := m1_; clear m0_ m1_; clear hb hbox hg; have hnb109 := NB194_189.out; have hnc109 := NB189_194.out; have hnb110 := NB194_191.out; have hnc110 := NB191_194.out; have hcz111_0 : w108.cell? ⟨gb194, 0, none⟩ = some (.int .i64 0) := (blk_cell BK194.out 0).trans rfl; have hcz111_1 : w108.cell? ⟨gb194, 1, none⟩ = some (.int .i64 0) := (blk_cell BK194.out 1).trans rfl; have hcz111_2 : w108.cell? ⟨gb194, 2, none⟩ = some (.int .i64 0) := (blk_cell BK194.out 2).trans rfl; have hcz111_3 : w108.cell? ⟨gb194, 3, none⟩ = some (.int .i64 0) := (blk_cell BK194.out 3).trans rfl; have hfz111_0 := blk_frozen BK194.out 0; have hfz111_1 := blk_frozen BK194.out 1; have hfz111_2 := blk_frozen BK194.out 2; have hfz111_3 := blk_frozen BK194.out 3; have hnb112 := NB189_191.out; have hnc112 := NB191_189.out; have hcz113_0 : w108.cell? ⟨gb189, 0, none⟩ = some (.int .i64 a0_0) := (blk_cell BK189.out 0).trans rfl; have hcz113_1 : w108.cell? ⟨gb189, 1, none⟩ = some (.int .i64 a0_1) := (blk_cell BK189.out 1).trans rfl; have hcz113_2 : w108.cell? ⟨gb189, 2, none⟩ = some (.int .i64 a0_2) := (blk_cell BK189.out 2).trans rfl; have hfz113_0 := blk_frozen BK189.out 0; have hfz113_1 := blk_frozen BK189.out 1; have hfz113_2 := blk_frozen BK189.out 2) | ((with_reducible refine gate_ (Op.lookup 73 (.tmp 55) (.tmp 57) false) rfl ?_); (try (refine gate_guard (by rfl) ?_; dsimp only)); refine wpList_lookup_seen rfl rfl Tryd.underlying9 Tryd.underlying73 Tryd.underlying4 (by kernel_rfl) BM x5_2 om (by (with_reducible repeat (first | refine blk_drewN ?_ _ | refine blk_drew ?_ | refine blk_alloc ?_ _ | refine obj_far ?_ GNE189.out _ | refine obj_far ?_ GNE191.out _ | refine obj_far ?_ GNE194.out _)); exact BKM.out) HS.out ((rd_T68 l1 x46_2).f0) KS.out rfl rfl ?_; (try rw [c27b0])) | ((with_reducible refine gate_ (Op.mapUpdate 73 (.tmp 82) (.tmp 84) (.const (.bool true))) rfl ?_); refine wpList_update_seen rfl rfl Tryd.underlying9 Tryd.underlying73 Tryd.underlying4 BM x5_2 om (by (with_reducible repeat (first | refine blk_drewN ?_ _ | refine blk_drew ?_ | refine blk_alloc ?_ _ | refine obj_far ?_ GNE189.out _ | refine obj_far ?_ GNE191.out _ | refine obj_far ?_ GNE194.out _)); exact BKM.out) HS.out ((rd_T68 l1 x46_2).f0) KS.out KL.out rfl rfl rfl ?_; intro wm2 hsm2 hgr2; have n0_ := Aside0.mk (pw_below_grown (by repeat (first | (with_reducible first | exact HB.out | apply below_alloc | apply pw_below_drewN | apply below_drew1 | refine below_set ?_ GE189.out | refine below_set ?_ GE191.out | refine below_set ?_ GE194.out) | exact HB.out)) (some BM) (below_size (by repeat (first | (with_reducible first | exact HB.out | apply below_alloc | apply pw_below_drewN | apply below_drew1 | refine below_set ?_ GE189.out | refine below_set ?_ GE191.out | refine below_set ?_ GE194.out) | exact HB.out))) hgr2 (fun k_ hk_ => by cases hk_; exact HBM.out)); (try (have b_ := Aside0.mk (blk_grown (g := gb189) (o := _) (by (with_reducible repeat (first | refine blk_drewN ?_ _ | refine blk_drew ?_ | refine blk_alloc ?_ _ | refine blk_put (g := gb189) ?_ _ _ rfl | refine obj_far ?_ (NB189_191.out) _ | refine obj_far ?_ (NB189_194.out) _)); exact BK189.out) hgr2 (fun e_ => GNE189.out (Option.some.inj e_).symm)); clear BK189; have BK189 := b_; clear b_)); (try (have hzm189_0 : wm2.cell? ⟨gb189, 0, none⟩ = some (.int .i64 a0_0) := (blk_cell BK189.out 0).trans rfl)); (try (have hfm189_0 := blk_frozen BK189.out 0)); (try (have hzm189_1 : wm2.cell? ⟨gb189, 1, none⟩ = some (.int .i64 a0_1) := (blk_cell BK189.out 1).trans rfl)); (try (have hfm189_1 := blk_frozen BK189.out 1)); (try (have hzm189_2 : wm2.cell? ⟨gb189, 2, none⟩ = some (.int .i64 a0_2) := (blk_cell BK189.out 2).trans rfl)); (try (have hfm189_2 := blk_frozen BK189.out 2)); (try (have b_ := Aside0.mk (blk_grown (g := gb191) (o := _) (by (with_reducible repeat (first | refine blk_drewN ?_ _ | refine blk_drew ?_ | refine blk_alloc ?_ _ | refine blk_put (g := gb191) ?_ _ _ rfl | refine obj_far ?_ (NB191_189.out) _ | refine obj_far ?_ (NB191_194.out) _)); exact BK191.out) hgr2 (fun e_ => GNE191.out (Option.some.inj e_).symm)); clear BK191; have BK191 := b_; clear b_)); (try (have hzm191_0 : wm2.cell? ⟨gb191, 0, none⟩ = some (.string ((rd_T68 l1 x46_2).f0)) := (blk_cell BK191.out 0).trans rfl)); (try (have hfm191_0 := blk_frozen BK191.out 0)); (try (have hzm191_1 : wm2.cell? ⟨gb191, 1, none⟩ = some (.int .i64 ((rd_T68 l1 x46_2).f1)) := (blk_cell BK191.out 1).trans rfl)); (try (have hfm191_1 := blk_frozen BK191.out 1)); (try (have hzm191_2 : wm2.cell? ⟨gb191, 2, none⟩ = some ((.slice A190_2 ((rd_T68 l1 x46_2).f2).length c190_2)) := (blk_cell BK191.out 2).trans rfl)); (try (have hfm191_2 := blk_frozen BK191.out 2)); (try (have b_ := Aside0.mk (blk_grown (g := gb194) (o := _) (by (with_reducible repeat (first | refine blk_drewN ?_ _ | refine blk_drew ?_ | refine blk_alloc ?_ _ | refine blk_put (g := gb194) ?_ _ _ rfl | refine obj_far ?_ (NB194_189.out) _ | refine obj_far ?_ (NB194_191.out) _)); exact BK194.out) hgr2 (fun e_ => GNE194.out (Option.some.inj e_).symm)); clear BK194; have BK194 := b_; clear b_)); clear HB; have HB := n0_; clear n0_; clear BKM HS; obtain ⟨om, hom2, hos2⟩ := hsm2; have BKM := Aside0.mk hom2; have HS := Aside0.mk hos2; clear hom2 hos2 hgr2))
                         go_ret
                         exact ⟨by first | rfl | (simp [errW_none, errW_some] <;> rfl) | (simp [*, errW_none, errW_some] <;> rfl), by repeat (first | (with_reducible first | exact HB.out | apply below_alloc | apply pw_below_drewN | apply below_drew1 | refine below_set ?_ GE189.out | refine below_set ?_ GE191.out | refine below_set ?_ GE194.out) | exact HB.out)⟩
                        ·rw [if_neg c107] at H
                         have c107b0 : decide (a0_2 < ((rd_T71 ((rd_T68 l1 x46_2).f2) x88_4).f3)) = false := decide_eq_false c107
                         clear c107
                         have H' := Aside0.mk H
                         clear H
                         have p193 : 0 ≤ (x88_4 : Int) := of_decide_eq_true (by first | (with_reducible assumption) | assumption)
                         have q193 : x88_4 < (((rd_T68 l1 x46_2).f2).length : Int) := of_decide_eq_true (by first | (with_reducible assumption) | assumption)
                         obtain ⟨ad193, e193, hx193_0, hx193_1, hx193_2, hx193_3⟩ := at_T71 HR190_2.out x88_4 p193 q193
                         cases e193
                         replace hx193_0 := (HB.out.cell (World.block_lt_of_cell? w _ hx193_0)).trans hx193_0
                         replace hx193_1 := (HB.out.cell (World.block_lt_of_cell? w _ hx193_1)).trans hx193_1
                         replace hx193_2 := (HB.out.cell (World.block_lt_of_cell? w _ hx193_2)).trans hx193_2
                         replace hx193_3 := (HB.out.cell (World.block_lt_of_cell? w _ hx193_3)).trans hx193_3
                         replace p193 := eq_true p193
                         replace q193 := eq_true q193
                         go_wp2_with (first | ((with_reducible refine gate_dst (N := 9) rfl ?_); (try (refine gate_guard (by rfl) ?_; dsimp only)); refine box_event ?hg (N := 9) ?hd (cs := #[.int .i64 0, .int .i64 0, .int .i64 0, .int .i64 0]) (t := 71) ?hr ?_; (case hd => rfl); (case hg => rfl); (case hr => first | (go_simp; done) | (go_simp; rfl)); intro gb194 hg w114 hbox hb; have n0_ := Aside0.mk (blk_below (g := gb189) (o := .cells #[.int .i64 a0_0, .int .i64 a0_1, .int .i64 a0_2] 38 (0, 0)) (by (with_reducible repeat (first | refine blk_drewN ?_ _ | refine blk_drew ?_ | refine blk_alloc ?_ _)); exact BK189.out) hb); have n1_ := Aside0.mk (blk_below (g := gb191) (o := .cells #[.string ((rd_T68 l1 x46_2).f0), .int .i64 ((rd_T68 l1 x46_2).f1), .slice (some ad193) ((rd_T68 l1 x46_2).f2).length c190_2] 68 (0, 0)) (by (with_reducible repeat (first | refine blk_drewN ?_ _ | refine blk_drew ?_ | refine blk_alloc ?_ _)); exact BK191.out) hb); have n2_ := Aside0.mk (below_step (by repeat (first | (with_reducible first | exact HB.out | apply below_alloc | apply pw_below_drewN | apply below_drew1 | refine below_set ?_ GE189.out | refine below_set ?_ GE191.out) | exact HB.out)) hb); have n3_ := Aside0.mk (hbox); have n4_ := Aside0.mk ((by rw [hg]; exact (below_size (by repeat (first | (with_reducible first | exact HB.out | apply below_alloc | apply pw_below_drewN | apply below_drew1 | refine below_set ?_ GE189.out | refine below_set ?_ GE191.out) | exact HB.out))) : w.heap.size ≤ gb194)); have n5_ := Aside0.mk ((by rw [hg]; exact (below_size (by repeat (first | (with_reducible first | exact HB.out | apply below_alloc | apply pw_below_drewN | apply below_drew1 | refine below_set ?_ GE189.out | refine below_set ?_ GE191.out) | exact HB.out))) : w.heap.size ≤ gb194)); have n6_ := Aside0.mk ((by rw [hg]; exact Nat.ne_of_lt (blk_lt (g := gb189) (o := .cells #[.int .i64 a0_0, .int .i64 a0_1, .int .i64 a0_2] 38 (0, 0)) (by (with_reducible repeat (first | refine blk_drewN ?_ _ | refine blk_drew ?_ | refine blk_alloc ?_ _)); exact BK189.out)) : gb189 ≠ gb194)); have n7_ := Aside0.mk ((by rw [hg]; exact Nat.ne_of_gt (blk_lt (g := gb189) (o := .cells #[.int .i64 a0_0, .int .i64 a0_1, .int .i64 a0_2] 38 (0, 0)) (by (with_reducible repeat (first | refine blk_drewN ?_ _ | refine blk_drew ?_ | refine blk_alloc ?_ _)); exact BK189.out)) : gb194 ≠ gb189)); have n8_ := Aside0.mk ((by rw [hg]; exact Nat.ne_of_lt (blk_lt (g := gb191) (o := .cells #[.string ((rd_T68 l1 x46_2).f0), .int .i64 ((rd_T68 l1 x46_2).f1), .slice (some ad193) ((rd_T68 l1 x46_2).f2).length c190_2] 68 (0, 0)) (by (with_reducible repeat (first | refine blk_drewN ?_ _ | refine blk_drew ?_ | refine blk_alloc ?_ _)); exact BK191.out)) : gb191 ≠ gb194)); have n9_ := Aside0.mk ((by rw [hg]; exact Nat.ne_of_gt (blk_lt (g := gb191) (o := .cells #[.string ((rd_T68 l1 x46_2).f0), .int .i64 ((rd_T68 l1 x46_2).f1), .slice (some ad193) ((rd_T68 l1 x46_2).f2).length c190_2] 68 (0, 0)) (by (with_reducible repeat (first | refine blk_drewN ?_ _ | refine blk_drew ?_ | refine blk_alloc ?_ _)); exact BK191.out)) : gb194 ≠ gb191)); clear BK189; clear BK191; clear HB; have BK189 := n0_; have BK191 := n1_; have HB := n2_; have BK194 := n3_; have GW194 := n4_; have GE194 := n5_; have NB189_194 := n6_; have NB194_189 := n7_; have NB191_194 := n8_; have NB194_191 := n9_; clear n0_ n1_ n2_ n3_ n4_ n5_ n6_ n7_ n8_ n9_; have m0_ := Aside0.mk (blk_below (g := BM) (o := om) (by (with_reducible repeat (first | refine blk_drewN ?_ _ | refine blk_drew ?_ | refine blk_alloc ?_ _ | refine obj_far ?_ GNE189.out _ | refine obj_far ?_ GNE191.out _ | refine obj_far ?_ GNE194.out _)); exact BKM.out) hb); have m1_ := Aside0.mk (show BM ≠ gb194 from Nat.ne_of_lt (by rw [hg]; exact blk_lt (o := om) (by (with_reducible repeat (first | refine blk_drewN ?_ _ | refine blk_drew ?_ | refine blk_alloc ?_ _ | refine obj_far ?_ GNE189.out _ | refine obj_far ?_ GNE191.out _ | refine obj_far ?_ GNE194.out _)); exact BKM.out))); clear BKM; have BKM := m0_; have GNE194 := m1_; clear m0_ m1_; clear hb hbox hg; have hnb115 := NB194_189.out; have hnc115 := NB189_194.out; have hnb116 := NB194_191.out; have hnc116 := NB191_194.out; have hcz117_0 : w114.cell? ⟨gb194, 0, none⟩ = some (.int .i64 0) := (blk_cell BK194.out 0).trans rfl; have hcz117_1 : w114.cell? ⟨gb194, 1, none⟩ = some (.int .i64 0) := (blk_cell BK194.out 1).trans rfl; have hcz117_2 : w114.cell? ⟨gb194, 2, none⟩ = some (.int .i64 0) := (blk_cell BK194.out 2).trans rfl; have hcz117_3 : w114.cell? ⟨gb194, 3, none⟩ = some (.int .i64 0) := (blk_cell BK194.out 3).trans rfl; have hfz117_0 := blk_frozen BK194.out 0; have hfz117_1 := blk_frozen BK194.out 1; have hfz117_2 := blk_frozen BK194.out 2; have hfz117_3 := blk_frozen BK194.out 3; have hnb118 := NB189_191.out; have hnc118 := NB191_189.out; have hcz119_0 : w114.cell? ⟨gb189, 0, none⟩ = some (.int .i64 a0_0) := (blk_cell BK189.out 0).trans rfl; have hcz119_1 : w114.cell? ⟨gb189, 1, none⟩ = some (.int .i64 a0_1) := (blk_cell BK189.out 1).trans rfl; have hcz119_2 : w114.cell? ⟨gb189, 2, none⟩ = some (.int .i64 a0_2) := (blk_cell BK189.out 2).trans rfl; have hfz119_0 := blk_frozen BK189.out 0; have hfz119_1 := blk_frozen BK189.out 1; have hfz119_2 := blk_frozen BK189.out 2) | ((with_reducible refine gate_ (Op.lookup 73 (.tmp 55) (.tmp 57) false) rfl ?_); (try (refine gate_guard (by rfl) ?_; dsimp only)); refine wpList_lookup_seen rfl rfl Tryd.underlying9 Tryd.underlying73 Tryd.underlying4 (by kernel_rfl) BM x5_2 om (by (with_reducible repeat (first | refine blk_drewN ?_ _ | refine blk_drew ?_ | refine blk_alloc ?_ _ | refine obj_far ?_ GNE189.out _ | refine obj_far ?_ GNE191.out _ | refine obj_far ?_ GNE194.out _)); exact BKM.out) HS.out ((rd_T68 l1 x46_2).f0) KS.out rfl rfl ?_; (try rw [c27b0])) | ((with_reducible refine gate_ (Op.mapUpdate 73 (.tmp 82) (.tmp 84) (.const (.bool true))) rfl ?_); refine wpList_update_seen rfl rfl Tryd.underlying9 Tryd.underlying73 Tryd.underlying4 BM x5_2 om (by (with_reducible repeat (first | refine blk_drewN ?_ _ | refine blk_drew ?_ | refine blk_alloc ?_ _ | refine obj_far ?_ GNE189.out _ | refine obj_far ?_ GNE191.out _ | refine obj_far ?_ GNE194.out _)); exact BKM.out) HS.out ((rd_T68 l1 x46_2).f0) KS.out KL.out rfl rfl rfl ?_; intro wm2 hsm2 hgr2; have n0_ := Aside0.mk (pw_below_grown (by repeat (first | (with_reducible first | exact HB.out | apply below_alloc | apply pw_below_drewN | apply below_drew1 | refine below_set ?_ GE189.out | refine below_set ?_ GE191.out | refine below_set ?_ GE194.out) | exact HB.out)) (some BM) (below_size (by repeat (first | (with_reducible first | exact HB.out | apply below_alloc | apply pw_below_drewN | apply below_drew1 | refine below_set ?_ GE189.out | refine below_set ?_ GE191.out | refine below_set ?_ GE194.out) | exact HB.out))) hgr2 (fun k_ hk_ => by cases hk_; exact HBM.out)); (try (have b_ := Aside0.mk (blk_grown (g := gb189) (o := _) (by (with_reducible repeat (first | refine blk_drewN ?_ _ | refine blk_drew ?_ | refine blk_alloc ?_ _ | refine blk_put (g := gb189) ?_ _ _ rfl | refine obj_far ?_ (NB189_191.out) _ | refine obj_far ?_ (NB189_194.out) _)); exact BK189.out) hgr2 (fun e_ => GNE189.out (Option.some.inj e_).symm)); clear BK189; have BK189 := b_; clear b_)); (try (have hzm189_0 : wm2.cell? ⟨gb189, 0, none⟩ = some (.int .i64 a0_0) := (blk_cell BK189.out 0).trans rfl)); (try (have hfm189_0 := blk_frozen BK189.out 0)); (try (have hzm189_1 : wm2.cell? ⟨gb189, 1, none⟩ = some (.int .i64 a0_1) := (blk_cell BK189.out 1).trans rfl)); (try (have hfm189_1 := blk_frozen BK189.out 1)); (try (have hzm189_2 : wm2.cell? ⟨gb189, 2, none⟩ = some (.int .i64 a0_2) := (blk_cell BK189.out 2).trans rfl)); (try (have hfm189_2 := blk_frozen BK189.out 2)); (try (have b_ := Aside0.mk (blk_grown (g := gb191) (o := _) (by (with_reducible repeat (first | refine blk_drewN ?_ _ | refine blk_drew ?_ | refine blk_alloc ?_ _ | refine blk_put (g := gb191) ?_ _ _ rfl | refine obj_far ?_ (NB191_189.out) _ | refine obj_far ?_ (NB191_194.out) _)); exact BK191.out) hgr2 (fun e_ => GNE191.out (Option.some.inj e_).symm)); clear BK191; have BK191 := b_; clear b_)); (try (have hzm191_0 : wm2.cell? ⟨gb191, 0, none⟩ = some (.string ((rd_T68 l1 x46_2).f0)) := (blk_cell BK191.out 0).trans rfl)); (try (have hfm191_0 := blk_frozen BK191.out 0)); (try (have hzm191_1 : wm2.cell? ⟨gb191, 1, none⟩ = some (.int .i64 ((rd_T68 l1 x46_2).f1)) := (blk_cell BK191.out 1).trans rfl)); (try (have hfm191_1 := blk_frozen BK191.out 1)); (try (have hzm191_2 : wm2.cell? ⟨gb191, 2, none⟩ = some ((.slice A190_2 ((rd_T68 l1 x46_2).f2).length c190_2)) := (blk_cell BK191.out 2).trans rfl)); (try (have hfm191_2 := blk_frozen BK191.out 2)); (try (have b_ := Aside0.mk (blk_grown (g := gb194) (o := _) (by (with_reducible repeat (first | refine blk_drewN ?_ _ | refine blk_drew ?_ | refine blk_alloc ?_ _ | refine blk_put (g := gb194) ?_ _ _ rfl | refine obj_far ?_ (NB194_189.out) _ | refine obj_far ?_ (NB194_191.out) _)); exact BK194.out) hgr2 (fun e_ => GNE194.out (Option.some.inj e_).symm)); clear BK194; have BK194 := b_; clear b_)); clear HB; have HB := n0_; clear n0_; clear BKM HS; obtain ⟨om, hom2, hos2⟩ := hsm2; have BKM := Aside0.mk hom2; have HS := Aside0.mk hos2; clear hom2 hos2 hgr2))
                         go_roundg k4
                         case measure => have := HJ2.out; have := HK2.out; have := HJ20.out; have := HK4.out; omega
                         case rel => exact ⟨(wrap64 (x88_4 + 1)), (by first | rfl | (simp; done) | (simp [*]; done)), H', ⟨by have := HJ2.out; have := HK2.out; have := HJ20.out; have := HK4.out; omega⟩, ⟨by (with_reducible repeat (first | refine blk_drewN ?_ _ | refine blk_drew ?_ | refine blk_alloc ?_ _)); refine blk_far ?_ NB189_194.out _; (with_reducible repeat (first | refine blk_drewN ?_ _ | refine blk_drew ?_ | refine blk_alloc ?_ _)); refine blk_far ?_ NB189_194.out _; (with_reducible repeat (first | refine blk_drewN ?_ _ | refine blk_drew ?_ | refine blk_alloc ?_ _)); refine blk_far ?_ NB189_194.out _; (with_reducible repeat (first | refine blk_drewN ?_ _ | refine blk_drew ?_ | refine blk_alloc ?_ _)); refine blk_far ?_ NB189_194.out _; (with_reducible repeat (first | refine blk_drewN ?_ _ | refine blk_drew ?_ | refine blk_alloc ?_ _)); exact BK189.out⟩, ⟨by (with_reducible repeat (first | refine blk_drewN ?_ _ | refine blk_drew ?_ | refine blk_alloc ?_ _)); refine blk_far ?_ NB191_194.out _; (with_reducible repeat (first | refine blk_drewN ?_ _ | refine blk_drew ?_ | refine blk_alloc ?_ _)); refine blk_far ?_ NB191_194.out _; (with_reducible repeat (first | refine blk_drewN ?_ _ | refine blk_drew ?_ | refine blk_alloc ?_ _)); refine blk_far ?_ NB191_194.out _; (with_reducible repeat (first | refine blk_drewN ?_ _ | refine blk_drew ?_ | refine blk_alloc ?_ _)); refine blk_far ?_ NB191_194.out _; (with_reducible repeat (first | refine blk_drewN ?_ _ | refine blk_drew ?_ | refine blk_alloc ?_ _)); exact BK191.out⟩, ⟨⟨_, (by (with_reducible repeat (first | refine blk_drewN ?_ _ | refine blk_drew ?_ | refine blk_alloc ?_ _ | refine obj_far ?_ GNE189.out _ | refine obj_far ?_ GNE191.out _ | refine obj_far ?_ GNE194.out _)); exact BKM.out), HS.out⟩⟩, ⟨by repeat (first | (with_reducible first | exact HB.out | apply below_alloc | apply pw_below_drewN | apply below_drew1 | refine below_set ?_ GE189.out | refine below_set ?_ GE191.out | refine below_set ?_ GE194.out) | exact HB.out)⟩⟩
                ·rw [if_neg c59] at H
                 exact absurd H (by simp)
               ·rw [if_neg c58] at H
                exact absurd H (by simp)
              ·rw [if_neg c57] at H
               have c57b0 : decide (x88_4 < (((rd_T68 l1 x46_2).f2).length : Int)) = false := decide_eq_false c57
               clear c57
               have H' := Aside0.mk H
               clear H
               go_wp2
               go_roundg k4
               case measure => have := HJ2.out; have := HK2.out; have := HJ20.out; have := HK4.out; omega
               case rel => exact ⟨((x5_2 ++ [((rd_T68 l1 x46_2).f0)])), (wrap64 (x46_2 + 1)), ⟨⟨_, (by (with_reducible repeat (first | refine blk_drewN ?_ _ | refine blk_drew ?_ | refine blk_alloc ?_ _ | refine obj_far ?_ GNE189.out _ | refine obj_far ?_ GNE191.out _ | refine obj_far ?_ GNE194.out _)); exact BKM.out), HS.out⟩⟩, (by first | rfl | (simp; done) | (simp [*]; done)), H', ⟨by have := HJ2.out; have := HK2.out; have := HJ20.out; have := HK4.out; omega⟩, ⟨by (with_reducible repeat (first | refine blk_drewN ?_ _ | refine blk_drew ?_ | refine blk_alloc ?_ _)); exact BK189.out⟩, ⟨by repeat (first | (with_reducible first | exact HB.out | apply below_alloc | apply pw_below_drewN | apply below_drew1 | refine below_set ?_ GE189.out | refine below_set ?_ GE191.out) | exact HB.out)⟩⟩
        ·rw [if_neg c20] at H
         exact absurd H (by simp)
       ·rw [if_neg c19] at H
        exact absurd H (by simp)
      ·rw [if_neg c18] at H
       have c18b0 : decide (x46_2 < (l1.length : Int)) = false := decide_eq_false c18
       clear c18
       obtain rfl := Option.some.inj H
       go_wp2
       go_ret
       exact ⟨by first | rfl | (simp [errW_none, errW_some] <;> rfl) | (simp [*, errW_none, errW_some] <;> rfl), by repeat (first | (with_reducible first | exact HB.out | apply below_alloc | apply pw_below_drewN | apply below_drew1 | refine below_set ?_ GE189.out) | exact HB.out)⟩

end Go.Proofs.YthmeijbiemkbaaaDoor.PFnExactBound
