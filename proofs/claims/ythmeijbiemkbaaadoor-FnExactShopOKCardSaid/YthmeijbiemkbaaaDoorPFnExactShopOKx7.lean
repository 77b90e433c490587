/- Written for this claim by a program of this session: the functions that the law reaches, each with its contract. -/
import Derived.Test.YthmeijbiemkbaaaDoorPFnExactShopOKx0
import Derived.Test.YthmeijbiemkbaaaDoorPFnExactShopOKx6
namespace Go.Proofs.YthmeijbiemkbaaaDoor.PFnExactShopOK
open Go.RowKit Go.Proofs.YthmeijbiemkbaaaDoorW.PrintWords Go.Proofs.YthmeijbiemkbaaaDoorW.PrintLast Go.Proofs.YthmeijbiemkbaaaDoorW.PrintMore Go.Proofs.YthmeijbiemkbaaaDoor.Seen
attribute [local go_sem] max2_int min2_int max_two min_two max_three min_three max_four min_four   -- for this text's walks alone
set_option linter.unusedVariables false
set_option linter.unusedSimpArgs false

/-! ### impl_ShopOK: function 17 -/
mutual
def impl_ShopOK.j0 : Nat → List (S68) → Bool → Int → Int → Int → Option (Bool)
 | 0, _, _, _, _, _ => none
 | k + 1, x1, x42, x160000, x160001, x160002 => if x42 = true then (some false) else (impl_ShopOK.l0 k [] x1 (x1.length : Int) 0 x160000 x160001 x160002)
def impl_ShopOK.l0 : Nat → List ByteArray → List (S68) → Int → Int → Int → Int → Int → Option (Bool)
 | 0, _, _, _, _, _, _, _ => none
 | k + 1, x5, x44, x45, x46, x160000, x160001, x160002 => if x46 < x45 then (if 0 ≤ x46 then (if x46 < (x44.length : Int) then ((impl_NameOK.f k ((rd_T68 x44 x46).f0)).bind fun t162 => (if t162 = true then (if ((rd_T68 x44 x46).f0).size ≤ 40 then (if x5.length < 1000 then (if inB x5 ((rd_T68 x44 x46).f0) = true then (impl_ShopOK.j2 k x5 x44 x45 x46 true x160000 x160001 x160002 ((rd_T68 x44 x46).f0) ((rd_T68 x44 x46).f1) ((rd_T68 x44 x46).f2)) else (if ((rd_T68 x44 x46).f1) < 0 then (impl_ShopOK.j2 k x5 x44 x45 x46 true x160000 x160001 x160002 ((rd_T68 x44 x46).f0) ((rd_T68 x44 x46).f1) ((rd_T68 x44 x46).f2)) else (if ((rd_T68 x44 x46).f1) > 1000000 then (impl_ShopOK.j2 k x5 x44 x45 x46 true x160000 x160001 x160002 ((rd_T68 x44 x46).f0) ((rd_T68 x44 x46).f1) ((rd_T68 x44 x46).f2)) else (if (((rd_T68 x44 x46).f2).length : Int) < 1 then (impl_ShopOK.j2 k x5 x44 x45 x46 true x160000 x160001 x160002 ((rd_T68 x44 x46).f0) ((rd_T68 x44 x46).f1) ((rd_T68 x44 x46).f2)) else (impl_ShopOK.j2 k x5 x44 x45 x46 (decide ((((rd_T68 x44 x46).f2).length : Int) > 8)) x160000 x160001 x160002 ((rd_T68 x44 x46).f0) ((rd_T68 x44 x46).f1) ((rd_T68 x44 x46).f2)))))) else (none)) else (none)) else (impl_ShopOK.j2 k x5 x44 x45 x46 true x160000 x160001 x160002 ((rd_T68 x44 x46).f0) ((rd_T68 x44 x46).f1) ((rd_T68 x44 x46).f2)))) else (none)) else (none)) else (some true)
def impl_ShopOK.j2 : Nat → List ByteArray → List (S68) → Int → Int → Bool → Int → Int → Int → ByteArray → Int → List (S71) → Option (Bool)
 | 0, _, _, _, _, _, _, _, _, _, _, _ => none
 | k + 1, x5, x44, x45, x46, x81, x160000, x160001, x160002, x162000, x162001, x162002 => if x81 = true then (some false) else (if ((rd_T68 x44 x46).f0).size ≤ 40 then (if x5.length < 1000 then (impl_ShopOK.l1 k (x5 ++ [((rd_T68 x44 x46).f0)]) x44 x45 x46 x162002 (x162002.length : Int) 0 x160000 x160001 x160002) else (none)) else (none))
def impl_ShopOK.l1 : Nat → List ByteArray → List (S68) → Int → Int → List (S71) → Int → Int → Int → Int → Int → Option (Bool)
 | 0, _, _, _, _, _, _, _, _, _, _ => none
 | k + 1, x5, x44, x45, x46, x86, x87, x88, x160000, x160001, x160002 => if x88 < x87 then (if 0 ≤ x88 then (if x88 < (x86.length : Int) then (if ((rd_T71 x86 x88).f0) < 0 then (some false) else (if ((rd_T71 x86 x88).f0) ≥ x160000 then (some false) else (if ((rd_T71 x86 x88).f1) < 1 then (some false) else (if ((rd_T71 x86 x88).f1) > 1000 then (some false) else (if ((rd_T71 x86 x88).f2) < 0 then (some false) else (if ((rd_T71 x86 x88).f2) > 9 then (some false) else (if ((rd_T71 x86 x88).f3) < 0 then (some false) else (if ((rd_T71 x86 x88).f3) > x160002 then (some false) else (impl_ShopOK.l1 k x5 x44 x45 x46 x86 x87 (wrap64 (x88 + 1)) x160000 x160001 x160002))))))))) else (none)) else (none)) else (impl_ShopOK.l0 k x5 x44 x45 (wrap64 (x46 + 1)) x160000 x160001 x160002)
end
def impl_ShopOK.f (k : Nat) (a0_0 : Int) (a0_1 : Int) (a0_2 : Int) (l1 : List (S68)) : Option (Bool) := if (l1.length : Int) > 20 then (impl_ShopOK.j0 k l1 true a0_0 a0_1 a0_2) else (if a0_0 < 1 then (impl_ShopOK.j0 k l1 true a0_0 a0_1 a0_2) else (if a0_0 > 6 then (impl_ShopOK.j0 k l1 true a0_0 a0_1 a0_2) else (if a0_1 < 0 then (impl_ShopOK.j0 k l1 true a0_0 a0_1 a0_2) else (if a0_1 > 1000 then (impl_ShopOK.j0 k l1 true a0_0 a0_1 a0_2) else (if a0_2 < 1 then (impl_ShopOK.j0 k l1 true a0_0 a0_1 a0_2) else (impl_ShopOK.j0 k l1 (decide (a0_2 > 1000)) a0_0 a0_1 a0_2))))))
theorem impl_ShopOK.mono_l : ∀ k, (∀ y0 y1 y2 y3 y4, LeO (impl_ShopOK.j0 k y0 y1 y2 y3 y4) (impl_ShopOK.j0 (k + 1) y0 y1 y2 y3 y4)) ∧ (∀ y0 y1 y2 y3 y4 y5 y6, LeO (impl_ShopOK.l0 k y0 y1 y2 y3 y4 y5 y6) (impl_ShopOK.l0 (k + 1) y0 y1 y2 y3 y4 y5 y6)) ∧ (∀ y0 y1 y2 y3 y4 y5 y6 y7 y8 y9 y10, LeO (impl_ShopOK.j2 k y0 y1 y2 y3 y4 y5 y6 y7 y8 y9 y10) (impl_ShopOK.j2 (k + 1) y0 y1 y2 y3 y4 y5 y6 y7 y8 y9 y10)) ∧ (∀ y0 y1 y2 y3 y4 y5 y6 y7 y8 y9, LeO (impl_ShopOK.l1 k y0 y1 y2 y3 y4 y5 y6 y7 y8 y9) (impl_ShopOK.l1 (k + 1) y0 y1 y2 y3 y4 y5 y6 y7 y8 y9))
 | 0 => ⟨fun _ _ _ _ _ r h => by simp [impl_ShopOK.j0] at h, fun _ _ _ _ _ _ _ r h => by simp [impl_ShopOK.l0] at h, fun _ _ _ _ _ _ _ _ _ _ _ r h => by simp [impl_ShopOK.j2] at h, fun _ _ _ _ _ _ _ _ _ _ r h => by simp [impl_ShopOK.l1] at h⟩
 | k + 1 => by
  obtain ⟨ih0, ih1, ih2, ih3⟩ := impl_ShopOK.mono_l k
  refine ⟨?_, ?_, ?_, ?_⟩
  ·intro y0 y1 y2 y3 y4
   unfold impl_ShopOK.j0
   repeat' first
   | (with_reducible exact ih0 _ _ _ _ _)
   | (with_reducible exact ih1 _ _ _ _ _ _ _)
   | (with_reducible exact ih2 _ _ _ _ _ _ _ _ _ _ _)
   | (with_reducible exact ih3 _ _ _ _ _ _ _ _ _ _)
   | (with_reducible exact impl_NameOK.mono _ _)
   | (with_reducible exact LeO.refl _)
   | (with_reducible exact LeO.none _)
   | (with_reducible refine LeO.ite ?_ ?_)
   | (with_reducible refine LeO.bind ?_ (fun _ => ?_))
   | exact ih0 _ _ _ _ _
   | exact ih1 _ _ _ _ _ _ _
   | exact ih2 _ _ _ _ _ _ _ _ _ _ _
   | exact ih3 _ _ _ _ _ _ _ _ _ _
   | exact impl_NameOK.mono _ _
   | exact LeO.none _
   | refine LeO.ite ?_ ?_
   | refine LeO.bind ?_ (fun _ => ?_)
  ·intro y0 y1 y2 y3 y4 y5 y6
   unfold impl_ShopOK.l0
   repeat' first
   | (with_reducible exact ih0 _ _ _ _ _)
   | (with_reducible exact ih1 _ _ _ _ _ _ _)
   | (with_reducible exact ih2 _ _ _ _ _ _ _ _ _ _ _)
   | (with_reducible exact ih3 _ _ _ _ _ _ _ _ _ _)
   | (with_reducible exact impl_NameOK.mono _ _)
   | (with_reducible exact LeO.refl _)
   | (with_reducible exact LeO.none _)
   | (with_reducible refine LeO.ite ?_ ?_)
   | (with_reducible refine LeO.bind ?_ (fun _ => ?_))
   | exact ih0 _ _ _ _ _
   | exact ih1 _ _ _ _ _ _ _
   | exact ih2 _ _ _ _ _ _ _ _ _ _ _
   | exact ih3 _ _ _ _ _ _ _ _ _ _
   | exact impl_NameOK.mono _ _
   | exact LeO.none _
   | refine LeO.ite ?_ ?_
   | refine LeO.bind ?_ (fun _ => ?_)
  ·intro y0 y1 y2 y3 y4 y5 y6 y7 y8 y9 y10
   unfold impl_ShopOK.j2
   repeat' first
   | (with_reducible exact ih0 _ _ _ _ _)
   | (with_reducible exact ih1 _ _ _ _ _ _ _)
   | (with_reducible exact ih2 _ _ _ _ _ _ _ _ _ _ _)
   | (with_reducible exact ih3 _ _ _ _ _ _ _ _ _ _)
   | (with_reducible exact impl_NameOK.mono _ _)
   | (with_reducible exact LeO.refl _)
   | (with_reducible exact LeO.none _)
   | (with_reducible refine LeO.ite ?_ ?_)
   | (with_reducible refine LeO.bind ?_ (fun _ => ?_))
   | exact ih0 _ _ _ _ _
   | exact ih1 _ _ _ _ _ _ _
   | exact ih2 _ _ _ _ _ _ _ _ _ _ _
   | exact ih3 _ _ _ _ _ _ _ _ _ _
   | exact impl_NameOK.mono _ _
   | exact LeO.none _
   | refine LeO.ite ?_ ?_
   | refine LeO.bind ?_ (fun _ => ?_)
  ·intro y0 y1 y2 y3 y4 y5 y6 y7 y8 y9
   unfold impl_ShopOK.l1
   repeat' first
   | (with_reducible exact ih0 _ _ _ _ _)
   | (with_reducible exact ih1 _ _ _ _ _ _ _)
   | (with_reducible exact ih2 _ _ _ _ _ _ _ _ _ _ _)
   | (with_reducible exact ih3 _ _ _ _ _ _ _ _ _ _)
   | (with_reducible exact impl_NameOK.mono _ _)
   | (with_reducible exact LeO.refl _)
   | (with_reducible exact LeO.none _)
   | (with_reducible refine LeO.ite ?_ ?_)
   | (with_reducible refine LeO.bind ?_ (fun _ => ?_))
   | exact ih0 _ _ _ _ _
   | exact ih1 _ _ _ _ _ _ _
   | exact ih2 _ _ _ _ _ _ _ _ _ _ _
   | exact ih3 _ _ _ _ _ _ _ _ _ _
   | exact impl_NameOK.mono _ _
   | exact LeO.none _
   | refine LeO.ite ?_ ?_
   | refine LeO.bind ?_ (fun _ => ?_)
theorem impl_ShopOK.mono : ∀ a0 a1 a2 a3 k, LeO (impl_ShopOK.f k a0 a1 a2 a3) (impl_ShopOK.f (k + 1) a0 a1 a2 a3) := by
 intro a0 a1 a2 a3 k
 obtain ⟨ih0, ih1, ih2, ih3⟩ := impl_ShopOK.mono_l k
 unfold impl_ShopOK.f
 repeat' first
   | (with_reducible exact ih0 _ _ _ _ _)
   | (with_reducible exact ih1 _ _ _ _ _ _ _)
   | (with_reducible exact ih2 _ _ _ _ _ _ _ _ _ _ _)
   | (with_reducible exact ih3 _ _ _ _ _ _ _ _ _ _)
   | (with_reducible exact impl_NameOK.mono _ _)
   | (with_reducible exact LeO.refl _)
   | (with_reducible exact LeO.none _)
   | (with_reducible refine LeO.ite ?_ ?_)
   | (with_reducible refine LeO.bind ?_ (fun _ => ?_))
   | exact ih0 _ _ _ _ _
   | exact ih1 _ _ _ _ _ _ _
   | exact ih2 _ _ _ _ _ _ _ _ _ _ _
   | exact ih3 _ _ _ _ _ _ _ _ _ _
   | exact impl_NameOK.mono _ _
   | exact LeO.none _
   | refine LeO.ite ?_ ?_
   | refine LeO.bind ?_ (fun _ => ?_)
set_option maxHeartbeats 8000000 in
set_option maxRecDepth 100000 in
theorem impl_ShopOK.calls (k : Nat) (a0_0 : Int) (a0_1 : Int) (a0_2 : Int) (A1 : Option Addr) (c1 : Nat) (l1 : List (S68)) (r : Bool) (w : World) (hr1 : Kd.C k68 w A1 l1.length l1) (hc1 : l1.length ≤ c1) (h : impl_ShopOK.f k a0_0 a0_1 a0_2 l1 = some r) (hT0 : LaidT w) :
  Calls Tryd.prog 17 #[.agg #[.int .i64 a0_0, .int .i64 a0_1, .int .i64 a0_2], .slice A1 l1.length c1] w fun e w' => e = .returned (.bool r) ∧ Below w.heap.size w w' := by
 have hu38 := Tryd.underlying38
 have hu68 := Tryd.underlying68
 have hu71 := Tryd.underlying71
 have HR1 := Aside0.mk hr1
 have HC1 := Aside0.mk hc1
 clear hr1 hc1
 have HB := Aside0.mk (Below.refl w.heap.size w)
 have HT0 := Aside0.mk hT0
 clear hT0
 have H : (if (l1.length : Int) > 20 then (impl_ShopOK.j0 k l1 true a0_0 a0_1 a0_2) else (if a0_0 < 1 then (impl_ShopOK.j0 k l1 true a0_0 a0_1 a0_2) else (if a0_0 > 6 then (impl_ShopOK.j0 k l1 true a0_0 a0_1 a0_2) else (if a0_1 < 0 then (impl_ShopOK.j0 k l1 true a0_0 a0_1 a0_2) else (if a0_1 > 1000 then (impl_ShopOK.j0 k l1 true a0_0 a0_1 a0_2) else (if a0_2 < 1 then (impl_ShopOK.j0 k l1 true a0_0 a0_1 a0_2) else (impl_ShopOK.j0 k l1 (decide (a0_2 > 1000)) a0_0 a0_1 a0_2))))))) = some r := h
 clear h
 have HC3 := Aside0.mk H
 clear H
 go_enter Tryd.func17, Tryd.ntmps17
 go_upto_region 1 with (first | ((with_reducible refine gate_dst (N := 2) rfl ?_); (try (refine gate_guard (by rfl) ?_; dsimp only)); refine box_event ?hg (N := 2) ?hd (cs := #[.int .i64 a0_0, .int .i64 a0_1, .int .i64 a0_2]) (t := 38) ?hr ?_; (case hd => rfl); (case hg => rfl); (case hr => first | (go_simp; done) | (go_simp; rfl)); intro gb159 hg w4 hbox hb; have n0_ := Aside0.mk (below_step (by repeat (first | (with_reducible first | exact HB.out | apply below_alloc | apply pw_below_drewN | apply below_drew1) | exact HB.out)) hb); have n1_ := Aside0.mk (hbox); have n2_ := Aside0.mk ((by rw [hg]; exact (below_size (by repeat (first | (with_reducible first | exact HB.out | apply below_alloc | apply pw_below_drewN | apply below_drew1) | exact HB.out))) : w.heap.size ≤ gb159)); have n3_ := Aside0.mk ((by rw [hg]; exact (below_size (by repeat (first | (with_reducible first | exact HB.out | apply below_alloc | apply pw_below_drewN | apply below_drew1) | exact HB.out))) : w.heap.size ≤ gb159)); clear HB; have HB := n0_; have BK159 := n1_; have GW159 := n2_; have GE159 := n3_; clear n0_ n1_ n2_ n3_; clear hb hbox hg))
 (try simp only [Act.put, List.setIfInBounds_toArray, List.set_cons_zero, List.set_cons_succ])
 go_cut [42] (fun v42 wc => ∃ (kq : Nat) (x42_2 : Bool), v42 = .bool x42_2 ∧ Aside0 (impl_ShopOK.j0 kq l1 x42_2 a0_0 a0_1 a0_2 = some r) ∧ Aside0 (kq ≤ k) ∧ Aside0 (wc.heap[gb159]? = some (.cells #[.int .i64 a0_0, .int .i64 a0_1, .int .i64 a0_2] 38 (0, 0))) ∧ Aside0 (Below w.heap.size w wc))
 case first =>
  have H := HC3.out
  clear HC3
  by_cases c5 : (l1.length : Int) > 20
  ·rw [if_pos c5] at H
   have c5b0 : decide (20 < (l1.length : Int)) = true := decide_eq_true c5
   have c5b1 : decide (20 < l1.length) = true := decide_eq_true (by omega)
   clear c5
   (first | rw [c5b0] | (simp only [i64_w, i32_w]; rw [c5b0]) | skip)
   have H' := Aside0.mk H
   clear H
   go_wp2
   go_meet
   case rel => exact ⟨_, (true), (by first | rfl | (simp; done) | (simp [*]; done)), H', ⟨by first | omega | exact Nat.le_refl _⟩, ⟨by (with_reducible repeat (first | refine blk_drewN ?_ _ | refine blk_drew ?_ | refine blk_alloc ?_ _)); exact BK159.out⟩, ⟨by repeat (first | (with_reducible first | exact HB.out | apply below_alloc | apply pw_below_drewN | apply below_drew1 | refine below_set ?_ GE159.out) | exact HB.out)⟩⟩
  ·rw [if_neg c5] at H
   have c5b0 : decide (20 < (l1.length : Int)) = false := decide_eq_false c5
   have c5b1 : decide (20 < l1.length) = false := decide_eq_false (by omega)
   clear c5
   (first | rw [c5b0] | (simp only [i64_w, i32_w]; rw [c5b0]) | skip)
   by_cases c6 : a0_0 < 1
   ·rw [if_pos c6] at H
    have c6b0 : decide (a0_0 < 1) = true := decide_eq_true c6
    clear c6
    have H' := Aside0.mk H
    clear H
    have hcz7_0 : w4.cell? ⟨gb159, 0, none⟩ = some (.int .i64 a0_0) := (blk_cell BK159.out 0).trans rfl
    have hcz7_1 : w4.cell? ⟨gb159, 1, none⟩ = some (.int .i64 a0_1) := (blk_cell BK159.out 1).trans rfl
    have hcz7_2 : w4.cell? ⟨gb159, 2, none⟩ = some (.int .i64 a0_2) := (blk_cell BK159.out 2).trans rfl
    have hfz7_0 := blk_frozen BK159.out 0
    have hfz7_1 := blk_frozen BK159.out 1
    have hfz7_2 := blk_frozen BK159.out 2
    go_wp2
    go_meet
    case rel => exact ⟨_, (true), (by first | rfl | (simp; done) | (simp [*]; done)), H', ⟨by first | omega | exact Nat.le_refl _⟩, ⟨by (with_reducible repeat (first | refine blk_drewN ?_ _ | refine blk_drew ?_ | refine blk_alloc ?_ _)); exact BK159.out⟩, ⟨by repeat (first | (with_reducible first | exact HB.out | apply below_alloc | apply pw_below_drewN | apply below_drew1 | refine below_set ?_ GE159.out) | exact HB.out)⟩⟩
   ·rw [if_neg c6] at H
    have c6b0 : decide (a0_0 < 1) = false := decide_eq_false c6
    clear c6
    by_cases c8 : a0_0 > 6
    ·rw [if_pos c8] at H
     have c8b0 : decide (6 < a0_0) = true := decide_eq_true c8
     clear c8
     have H' := Aside0.mk H
     clear H
     have hcz9_0 : w4.cell? ⟨gb159, 0, none⟩ = some (.int .i64 a0_0) := (blk_cell BK159.out 0).trans rfl
     have hcz9_1 : w4.cell? ⟨gb159, 1, none⟩ = some (.int .i64 a0_1) := (blk_cell BK159.out 1).trans rfl
     have hcz9_2 : w4.cell? ⟨gb159, 2, none⟩ = some (.int .i64 a0_2) := (blk_cell BK159.out 2).trans rfl
     have hfz9_0 := blk_frozen BK159.out 0
     have hfz9_1 := blk_frozen BK159.out 1
     have hfz9_2 := blk_frozen BK159.out 2
     go_wp2
     go_meet
     case rel => exact ⟨_, (true), (by first | rfl | (simp; done) | (simp [*]; done)), H', ⟨by first | omega | exact Nat.le_refl _⟩, ⟨by (with_reducible repeat (first | refine blk_drewN ?_ _ | refine blk_drew ?_ | refine blk_alloc ?_ _)); exact BK159.out⟩, ⟨by repeat (first | (with_reducible first | exact HB.out | apply below_alloc | apply pw_below_drewN | apply below_drew1 | refine below_set ?_ GE159.out) | exact HB.out)⟩⟩
    ·rw [if_neg c8] at H
     have c8b0 : decide (6 < a0_0) = false := decide_eq_false c8
     clear c8
     by_cases c10 : a0_1 < 0
     ·rw [if_pos c10] at H
      have c10b0 : decide (a0_1 < 0) = true := decide_eq_true c10
      clear c10
      have H' := Aside0.mk H
      clear H
      have hcz11_0 : w4.cell? ⟨gb159, 0, none⟩ = some (.int .i64 a0_0) := (blk_cell BK159.out 0).trans rfl
      have hcz11_1 : w4.cell? ⟨gb159, 1, none⟩ = some (.int .i64 a0_1) := (blk_cell BK159.out 1).trans rfl
      have hcz11_2 : w4.cell? ⟨gb159, 2, none⟩ = some (.int .i64 a0_2) := (blk_cell BK159.out 2).trans rfl
      have hfz11_0 := blk_frozen BK159.out 0
      have hfz11_1 := blk_frozen BK159.out 1
      have hfz11_2 := blk_frozen BK159.out 2
      go_wp2
      go_meet
      case rel => exact ⟨_, (true), (by first | rfl | (simp; done) | (simp [*]; done)), H', ⟨by first | omega | exact Nat.le_refl _⟩, ⟨by (with_reducible repeat (first | refine blk_drewN ?_ _ | refine blk_drew ?_ | refine blk_alloc ?_ _)); exact BK159.out⟩, ⟨by repeat (first | (with_reducible first | exact HB.out | apply below_alloc | apply pw_below_drewN | apply below_drew1 | refine below_set ?_ GE159.out) | exact HB.out)⟩⟩
     ·rw [if_neg c10] at H
      have c10b0 : decide (a0_1 < 0) = false := decide_eq_false c10
      clear c10
      by_cases c12 : a0_1 > 1000
      ·rw [if_pos c12] at H
       have c12b0 : decide (1000 < a0_1) = true := decide_eq_true c12
       clear c12
       have H' := Aside0.mk H
       clear H
       have hcz13_0 : w4.cell? ⟨gb159, 0, none⟩ = some (.int .i64 a0_0) := (blk_cell BK159.out 0).trans rfl
       have hcz13_1 : w4.cell? ⟨gb159, 1, none⟩ = some (.int .i64 a0_1) := (blk_cell BK159.out 1).trans rfl
       have hcz13_2 : w4.cell? ⟨gb159, 2, none⟩ = some (.int .i64 a0_2) := (blk_cell BK159.out 2).trans rfl
       have hfz13_0 := blk_frozen BK159.out 0
       have hfz13_1 := blk_frozen BK159.out 1
       have hfz13_2 := blk_frozen BK159.out 2
       go_wp2
       go_meet
       case rel => exact ⟨_, (true), (by first | rfl | (simp; done) | (simp [*]; done)), H', ⟨by first | omega | exact Nat.le_refl _⟩, ⟨by (with_reducible repeat (first | refine blk_drewN ?_ _ | refine blk_drew ?_ | refine blk_alloc ?_ _)); exact BK159.out⟩, ⟨by repeat (first | (with_reducible first | exact HB.out | apply below_alloc | apply pw_below_drewN | apply below_drew1 | refine below_set ?_ GE159.out) | exact HB.out)⟩⟩
      ·rw [if_neg c12] at H
       have c12b0 : decide (1000 < a0_1) = false := decide_eq_false c12
       clear c12
       by_cases c14 : a0_2 < 1
       ·rw [if_pos c14] at H
        have c14b0 : decide (a0_2 < 1) = true := decide_eq_true c14
        clear c14
        have H' := Aside0.mk H
        clear H
        have hcz15_0 : w4.cell? ⟨gb159, 0, none⟩ = some (.int .i64 a0_0) := (blk_cell BK159.out 0).trans rfl
        have hcz15_1 : w4.cell? ⟨gb159, 1, none⟩ = some (.int .i64 a0_1) := (blk_cell BK159.out 1).trans rfl
        have hcz15_2 : w4.cell? ⟨gb159, 2, none⟩ = some (.int .i64 a0_2) := (blk_cell BK159.out 2).trans rfl
        have hfz15_0 := blk_frozen BK159.out 0
        have hfz15_1 := blk_frozen BK159.out 1
        have hfz15_2 := blk_frozen BK159.out 2
        go_wp2
        go_meet
        case rel => exact ⟨_, (true), (by first | rfl | (simp; done) | (simp [*]; done)), H', ⟨by first | omega | exact Nat.le_refl _⟩, ⟨by (with_reducible repeat (first | refine blk_drewN ?_ _ | refine blk_drew ?_ | refine blk_alloc ?_ _)); exact BK159.out⟩, ⟨by repeat (first | (with_reducible first | exact HB.out | apply below_alloc | apply pw_below_drewN | apply below_drew1 | refine below_set ?_ GE159.out) | exact HB.out)⟩⟩
       ·rw [if_neg c14] at H
        have c14b0 : decide (a0_2 < 1) = false := decide_eq_false c14
        clear c14
        have H' := Aside0.mk H
        clear H
        have hcz16_0 : w4.cell? ⟨gb159, 0, none⟩ = some (.int .i64 a0_0) := (blk_cell BK159.out 0).trans rfl
        have hcz16_1 : w4.cell? ⟨gb159, 1, none⟩ = some (.int .i64 a0_1) := (blk_cell BK159.out 1).trans rfl
        have hcz16_2 : w4.cell? ⟨gb159, 2, none⟩ = some (.int .i64 a0_2) := (blk_cell BK159.out 2).trans rfl
        have hfz16_0 := blk_frozen BK159.out 0
        have hfz16_1 := blk_frozen BK159.out 1
        have hfz16_2 := blk_frozen BK159.out 2
        go_wp2
        go_meet
        case rel => exact ⟨_, (decide (a0_2 > 1000)), (by first | rfl | (simp; done) | (simp [*]; done)), H', ⟨by first | omega | exact Nat.le_refl _⟩, ⟨by (with_reducible repeat (first | refine blk_drewN ?_ _ | refine blk_drew ?_ | refine blk_alloc ?_ _)); exact BK159.out⟩, ⟨by repeat (first | (with_reducible first | exact HB.out | apply below_alloc | apply pw_below_drewN | apply below_drew1 | refine below_set ?_ GE159.out) | exact HB.out)⟩⟩
 case rest =>
  clear HC3
  try clear c1
  try clear p2
  try clear c5
  try clear c5b0
  try clear c5b1
  try clear c6
  try clear c6b0
  try clear c8
  try clear c8b0
  try clear c10
  try clear c10b0
  try clear c12
  try clear c12b0
  try clear c14
  try clear c14b0
  try clear hcz11_0
  try clear hcz11_1
  try clear hcz11_2
  try clear hcz13_0
  try clear hcz13_1
  try clear hcz13_2
  try clear hcz15_0
  try clear hcz15_1
  try clear hcz15_2
  try clear hcz16_0
  try clear hcz16_1
  try clear hcz16_2
  try clear hcz7_0
  try clear hcz7_1
  try clear hcz7_2
  try clear hcz9_0
  try clear hcz9_1
  try clear hcz9_2
  try clear hfz11_0
  try clear hfz11_1
  try clear hfz11_2
  try clear hfz13_0
  try clear hfz13_1
  try clear hfz13_2
  try clear hfz15_0
  try clear hfz15_1
  try clear hfz15_2
  try clear hfz16_0
  try clear hfz16_1
  try clear hfz16_2
  try clear hfz7_0
  try clear hfz7_1
  try clear hfz7_2
  try clear hfz9_0
  try clear hfz9_1
  try clear hfz9_2
  obtain ⟨kq, x42_2, rfl, HA, HJ2, BK159, HB⟩ := hcut
  cases kq with
  | zero => exact absurd HA.out (by simp [impl_ShopOK.j0])
  | succ kj2 =>
   have H := HA.out
   clear HA
   simp only [impl_ShopOK.j0] at H
   by_cases c17 : x42_2 = true
   ·subst c17
    have H1 : (some false) = some r := by rw [if_pos rfl] at H; exact H
    clear H
    have H := H1
    clear H1
    obtain rfl := Option.some.inj H
    go_wp2
    go_ret
    exact ⟨by first | rfl | (simp [errW_none, errW_some] <;> rfl) | (simp [*, errW_none, errW_some] <;> rfl), by repeat (first | (with_reducible first | exact HB.out | apply below_alloc | apply pw_below_drewN | apply below_drew1 | refine below_set ?_ GE159.out) | exact HB.out)⟩
   ·replace c17 := Bool.eq_false_iff.mpr c17
    subst c17
    have H1 : (impl_ShopOK.l0 kj2 [] l1 (l1.length : Int) 0 a0_0 a0_1 a0_2) = some r := by rw [if_neg (show ¬ (false = true) by decide)] at H; exact H
    clear H
    have H := H1
    clear H1
    have H' := Aside0.mk H
    clear H
    go_wp2_with (first | ((with_reducible refine gate_ (Op.makeMap 73 none) rfl ?_); refine make_event rfl rfl ?_; intro BM hg wm hbox hb; have n0_ := Aside0.mk (below_step (by repeat (first | (with_reducible first | exact HB.out | apply below_alloc | apply pw_below_drewN | apply below_drew1 | refine below_set ?_ GE159.out | refine below_set ?_ GE161.out | refine below_set ?_ GE164.out) | exact HB.out)) hb); have n2_ := Aside0.mk ((by rw [hg]; exact (below_size (by repeat (first | (with_reducible first | exact HB.out | apply below_alloc | apply pw_below_drewN | apply below_drew1 | refine below_set ?_ GE159.out | refine below_set ?_ GE161.out | refine below_set ?_ GE164.out) | exact HB.out))) : w.heap.size ≤ BM)); have n3_ := Aside0.mk (seen_made (P := Tryd.prog) (k := 9) (e := 4) hbox); (try (have m_ := Aside0.mk (show BM ≠ gb159 from Nat.ne_of_gt (by rw [hg]; exact blk_lt (g := gb159) (o := _) (by (with_reducible repeat (first | refine blk_drewN ?_ _ | refine blk_drew ?_ | refine blk_alloc ?_ _ | refine blk_put (g := gb159) ?_ _ _ rfl | refine obj_far ?_ (NB159_161.out) _ | refine obj_far ?_ (NB159_164.out) _)); exact BK159.out))); have b_ := Aside0.mk (blk_below (g := gb159) (o := _) (by (with_reducible repeat (first | refine blk_drewN ?_ _ | refine blk_drew ?_ | refine blk_alloc ?_ _ | refine blk_put (g := gb159) ?_ _ _ rfl | refine obj_far ?_ (NB159_161.out) _ | refine obj_far ?_ (NB159_164.out) _)); exact BK159.out) hb); clear BK159; have BK159 := b_; have GNE159 := m_; clear b_ m_)); (try (have m_ := Aside0.mk (show BM ≠ gb161 from Nat.ne_of_gt (by rw [hg]; exact blk_lt (g := gb161) (o := _) (by (with_reducible repeat (first | refine blk_drewN ?_ _ | refine blk_drew ?_ | refine blk_alloc ?_ _ | refine blk_put (g := gb161) ?_ _ _ rfl | refine obj_far ?_ (NB161_159.out) _ | refine obj_far ?_ (NB161_164.out) _)); exact BK161.out))); have b_ := Aside0.mk (blk_below (g := gb161) (o := _) (by (with_reducible repeat (first | refine blk_drewN ?_ _ | refine blk_drew ?_ | refine blk_alloc ?_ _ | refine blk_put (g := gb161) ?_ _ _ rfl | refine obj_far ?_ (NB161_159.out) _ | refine obj_far ?_ (NB161_164.out) _)); exact BK161.out) hb); clear BK161; have BK161 := b_; have GNE161 := m_; clear b_ m_)); (try (have m_ := Aside0.mk (show BM ≠ gb164 from Nat.ne_of_gt (by rw [hg]; exact blk_lt (g := gb164) (o := _) (by (with_reducible repeat (first | refine blk_drewN ?_ _ | refine blk_drew ?_ | refine blk_alloc ?_ _ | refine blk_put (g := gb164) ?_ _ _ rfl | refine obj_far ?_ (NB164_159.out) _ | refine obj_far ?_ (NB164_161.out) _)); exact BK164.out))); have b_ := Aside0.mk (blk_below (g := gb164) (o := _) (by (with_reducible repeat (first | refine blk_drewN ?_ _ | refine blk_drew ?_ | refine blk_alloc ?_ _ | refine blk_put (g := gb164) ?_ _ _ rfl | refine obj_far ?_ (NB164_159.out) _ | refine obj_far ?_ (NB164_161.out) _)); exact BK164.out) hb); clear BK164; have BK164 := b_; have GNE164 := m_; clear b_ m_)); clear HB; have HB := n0_; have HBM := n2_; have HMN := n3_; clear n0_ n2_ n3_; clear hb hbox hg))
    go_loopg [46] kj2 (fun kq v46 w' => ∃ (x5_2 : List ByteArray) (x46_2 : Int), Aside0 (SeenAt Tryd.prog 9 4 BM x5_2 w') ∧ v46 = .int .i64 x46_2 ∧ Aside0 (impl_ShopOK.l0 kq x5_2 l1 (l1.length : Int) x46_2 a0_0 a0_1 a0_2 = some r) ∧ Aside0 (kq ≤ kj2) ∧ Aside0 (w'.heap[gb159]? = some (.cells #[.int .i64 a0_0, .int .i64 a0_1, .int .i64 a0_2] 38 (0, 0))) ∧ Aside0 (Below w.heap.size w w'))
    case atStart => exact ⟨[], (0), HMN, (by first | rfl | (simp; done) | (simp [*]; done)), H', ⟨Nat.le_refl _⟩, ⟨by (with_reducible repeat (first | refine blk_drewN ?_ _ | refine blk_drew ?_ | refine blk_alloc ?_ _)); exact BK159.out⟩, ⟨by repeat (first | (with_reducible first | exact HB.out | apply below_alloc | apply pw_below_drewN | apply below_drew1 | refine below_set ?_ GE159.out) | exact HB.out)⟩⟩
    case round =>
     clear H'
     try clear c1
     try clear p2
     try clear c5
     try clear c5b0
     try clear c5b1
     try clear c6
     try clear c6b0
     try clear c8
     try clear c8b0
     try clear c10
     try clear c10b0
     try clear c12
     try clear c12b0
     try clear c14
     try clear c14b0
     try clear c17
     try clear hcz11_0
     try clear hcz11_1
     try clear hcz11_2
     try clear hcz13_0
     try clear hcz13_1
     try clear hcz13_2
     try clear hcz15_0
     try clear hcz15_1
     try clear hcz15_2
     try clear hcz16_0
     try clear hcz16_1
     try clear hcz16_2
     try clear hcz7_0
     try clear hcz7_1
     try clear hcz7_2
     try clear hcz9_0
     try clear hcz9_1
     try clear hcz9_2
     try clear hfz11_0
     try clear hfz11_1
     try clear hfz11_2
     try clear hfz13_0
     try clear hfz13_1
     try clear hfz13_2
     try clear hfz15_0
     try clear hfz15_1
     try clear hfz15_2
     try clear hfz16_0
     try clear hfz16_1
     try clear hfz16_2
     try clear hfz7_0
     try clear hfz7_1
     try clear hfz7_2
     try clear hfz9_0
     try clear hfz9_1
     try clear hfz9_2
     try clear p2
     obtain ⟨x5_2, x46_2, HM, rfl, HA, HK2, BK159, HB⟩ := hrel
     obtain ⟨om, hom, hos⟩ := HM.out
     have BKM := Aside0.mk hom
     have HS := Aside0.mk hos
     clear hom hos HM
     try clear HMN
     cases gk with
     | zero => exact absurd HA.out (by simp [impl_ShopOK.l0])
     | succ k2 =>
      have H := HA.out
      clear HA
      simp only [impl_ShopOK.l0] at H
      by_cases c18 : x46_2 < (l1.length : Int)
      ·rw [if_pos c18] at H
       have c18b0 : decide (x46_2 < (l1.length : Int)) = true := decide_eq_true c18
       clear c18
       by_cases c19 : 0 ≤ x46_2
       ·rw [if_pos c19] at H
        have c19b0 : decide (0 ≤ x46_2) = true := decide_eq_true c19
        clear c19
        by_cases c20 : x46_2 < (l1.length : Int)
        ·rw [if_pos c20] at H
         have c20b0 : decide (x46_2 < (l1.length : Int)) = true := decide_eq_true c20
         clear c20
         have HC21 := Aside0.mk H
         clear H
         have p160 : 0 ≤ (x46_2 : Int) := of_decide_eq_true (by first | (with_reducible assumption) | assumption)
         have q160 : x46_2 < (l1.length : Int) := of_decide_eq_true (by first | (with_reducible assumption) | assumption)
         obtain ⟨ad160, A160_2, c160_2, e160, hx160_0, hx160_1, hx160_2, hl160_2, hi160_2⟩ := at_T68 HR1.out x46_2 p160 q160
         cases e160
         replace hx160_0 := (HB.out.cell (World.block_lt_of_cell? w _ hx160_0)).trans hx160_0
         replace hx160_1 := (HB.out.cell (World.block_lt_of_cell? w _ hx160_1)).trans hx160_1
         replace hx160_2 := (HB.out.cell (World.block_lt_of_cell? w _ hx160_2)).trans hx160_2
         have HR160_2 := Aside0.mk hi160_2
         have HC160_2 := Aside0.mk hl160_2
         clear hi160_2 hl160_2
         replace p160 := eq_true p160
         replace q160 := eq_true q160
         go_upto_region 7 with (first | ((with_reducible refine gate_dst (N := 7) rfl ?_); (try (refine gate_guard (by rfl) ?_; dsimp only)); refine box_event ?hg (N := 7) ?hd (cs := #[.string (⟨#[]⟩ : ByteArray), .int .i64 0, .slice none 0 0]) (t := 68) ?hr ?_; (case hd => rfl); (case hg => rfl); (case hr => first | (go_simp; done) | (go_simp; rfl)); intro gb161 hg w22 hbox hb; have n0_ := Aside0.mk (blk_below (g := gb159) (o := .cells #[.int .i64 a0_0, .int .i64 a0_1, .int .i64 a0_2] 38 (0, 0)) (by (with_reducible repeat (first | refine blk_drewN ?_ _ | refine blk_drew ?_ | refine blk_alloc ?_ _)); exact BK159.out) hb); have n1_ := Aside0.mk (below_step (by repeat (first | (with_reducible first | exact HB.out | apply below_alloc | apply pw_below_drewN | apply below_drew1 | refine below_set ?_ GE159.out) | exact HB.out)) hb); have n2_ := Aside0.mk (hbox); have n3_ := Aside0.mk ((by rw [hg]; exact (below_size (by repeat (first | (with_reducible first | exact HB.out | apply below_alloc | apply pw_below_drewN | apply below_drew1 | refine below_set ?_ GE159.out) | exact HB.out))) : w.heap.size ≤ gb161)); have n4_ := Aside0.mk ((by rw [hg]; exact (below_size (by repeat (first | (with_reducible first | exact HB.out | apply below_alloc | apply pw_below_drewN | apply below_drew1 | refine below_set ?_ GE159.out) | exact HB.out))) : w.heap.size ≤ gb161)); have n5_ := Aside0.mk ((by rw [hg]; exact Nat.ne_of_lt (blk_lt (g := gb159) (o := .cells #[.int .i64 a0_0, .int .i64 a0_1, .int .i64 a0_2] 38 (0, 0)) (by (with_reducible repeat (first | refine blk_drewN ?_ _ | refine blk_drew ?_ | refine blk_alloc ?_ _)); exact BK159.out)) : gb159 ≠ gb161)); have n6_ := Aside0.mk ((by rw [hg]; exact Nat.ne_of_gt (blk_lt (g := gb159) (o := .cells #[.int .i64 a0_0, .int .i64 a0_1, .int .i64 a0_2] 38 (0, 0)) (by (with_reducible repeat (first | refine blk_drewN ?_ _ | refine blk_drew ?_ | refine blk_alloc ?_ _)); exact BK159.out)) : gb161 ≠ gb159)); clear BK159; clear HB; have BK159 := n0_; have HB := n1_; have BK161 := n2_; have GW161 := n3_; have GE161 := n4_; have NB159_161 := n5_; have NB161_159 := n6_; clear n0_ n1_ n2_ n3_ n4_ n5_ n6_; have m0_ := Aside0.mk (blk_below (g := BM) (o := om) (by (with_reducible repeat (first | refine blk_drewN ?_ _ | refine blk_drew ?_ | refine blk_alloc ?_ _ | refine obj_far ?_ GNE159.out _ | refine obj_far ?_ GNE161.out _ | refine obj_far ?_ GNE164.out _)); exact BKM.out) hb); have m1_ := Aside0.mk (show BM ≠ gb161 from Nat.ne_of_lt (by rw [hg]; exact blk_lt (o := om) (by (with_reducible repeat (first | refine blk_drewN ?_ _ | refine blk_drew ?_ | refine blk_alloc ?_ _ | refine obj_far ?_ GNE159.out _ | refine obj_far ?_ GNE161.out _ | refine obj_far ?_ GNE164.out _)); exact BKM.out))); clear BKM; have BKM := m0_; have GNE161 := m1_; clear m0_ m1_; clear hb hbox hg; have hnb23 := NB161_159.out; have hnc23 := NB159_161.out; have hcz24_0 : w22.cell? ⟨gb161, 0, none⟩ = some (.string (⟨#[]⟩ : ByteArray)) := (blk_cell BK161.out 0).trans rfl; have hcz24_1 : w22.cell? ⟨gb161, 1, none⟩ = some (.int .i64 0) := (blk_cell BK161.out 1).trans rfl; have hcz24_2 : w22.cell? ⟨gb161, 2, none⟩ = some (.slice none 0 0) := (blk_cell BK161.out 2).trans rfl; have hfz24_0 := blk_frozen BK161.out 0; have hfz24_1 := blk_frozen BK161.out 1; have hfz24_2 := blk_frozen BK161.out 2))
         (try simp only [Act.put, List.setIfInBounds_toArray, List.set_cons_zero, List.set_cons_succ])
         go_cut [81] (fun v81 wc => ∃ (kq : Nat) (x81_20 : Bool), v81 = .bool x81_20 ∧ Aside0 (impl_ShopOK.j2 kq x5_2 l1 (l1.length : Int) x46_2 x81_20 a0_0 a0_1 a0_2 ((rd_T68 l1 x46_2).f0) ((rd_T68 l1 x46_2).f1) ((rd_T68 l1 x46_2).f2) = some r) ∧ Aside0 (kq ≤ k2) ∧ Aside0 (wc.heap[gb159]? = some (.cells #[.int .i64 a0_0, .int .i64 a0_1, .int .i64 a0_2] 38 (0, 0))) ∧ Aside0 (wc.heap[gb161]? = some (.cells #[.string ((rd_T68 l1 x46_2).f0), .int .i64 ((rd_T68 l1 x46_2).f1), (.slice A160_2 ((rd_T68 l1 x46_2).f2).length c160_2)] 68 (0, 0))) ∧ Aside0 (SeenAt Tryd.prog 9 4 BM x5_2 wc) ∧ Aside0 (Below w.heap.size w wc))
         case first =>
          have H := HC21.out
          clear HC21
          replace H := Option.bind_eq_some_iff.mp H
          obtain ⟨t162, A250, H⟩ := H
          replace H : (if t162 = true then (if ((rd_T68 l1 x46_2).f0).size ≤ 40 then (if x5_2.length < 1000 then (if inB x5_2 ((rd_T68 l1 x46_2).f0) = true then (impl_ShopOK.j2 k2 x5_2 l1 (l1.length : Int) x46_2 true a0_0 a0_1 a0_2 ((rd_T68 l1 x46_2).f0) ((rd_T68 l1 x46_2).f1) ((rd_T68 l1 x46_2).f2)) else (if ((rd_T68 l1 x46_2).f1) < 0 then (impl_ShopOK.j2 k2 x5_2 l1 (l1.length : Int) x46_2 true a0_0 a0_1 a0_2 ((rd_T68 l1 x46_2).f0) ((rd_T68 l1 x46_2).f1) ((rd_T68 l1 x46_2).f2)) else (if ((rd_T68 l1 x46_2).f1) > 1000000 then (impl_ShopOK.j2 k2 x5_2 l1 (l1.length : Int) x46_2 true a0_0 a0_1 a0_2 ((rd_T68 l1 x46_2).f0) ((rd_T68 l1 x46_2).f1) ((rd_T68 l1 x46_2).f2)) else (if (((rd_T68 l1 x46_2).f2).length : Int) < 1 then (impl_ShopOK.j2 k2 x5_2 l1 (l1.length : Int) x46_2 true a0_0 a0_1 a0_2 ((rd_T68 l1 x46_2).f0) ((rd_T68 l1 x46_2).f1) ((rd_T68 l1 x46_2).f2)) else (impl_ShopOK.j2 k2 x5_2 l1 (l1.length : Int) x46_2 (decide ((((rd_T68 l1 x46_2).f2).length : Int) > 8)) a0_0 a0_1 a0_2 ((rd_T68 l1 x46_2).f0) ((rd_T68 l1 x46_2).f1) ((rd_T68 l1 x46_2).f2)))))) else (none)) else (none)) else (impl_ShopOK.j2 k2 x5_2 l1 (l1.length : Int) x46_2 true a0_0 a0_1 a0_2 ((rd_T68 l1 x46_2).f0) ((rd_T68 l1 x46_2).f1) ((rd_T68 l1 x46_2).f2))) = some r := H
          have A25 := Aside0.mk A250
          clear A250
          by_cases c26 : t162 = true
          ·subst c26
           have H1 : (if ((rd_T68 l1 x46_2).f0).size ≤ 40 then (if x5_2.length < 1000 then (if inB x5_2 ((rd_T68 l1 x46_2).f0) = true then (impl_ShopOK.j2 k2 x5_2 l1 (l1.length : Int) x46_2 true a0_0 a0_1 a0_2 ((rd_T68 l1 x46_2).f0) ((rd_T68 l1 x46_2).f1) ((rd_T68 l1 x46_2).f2)) else (if ((rd_T68 l1 x46_2).f1) < 0 then (impl_ShopOK.j2 k2 x5_2 l1 (l1.length : Int) x46_2 true a0_0 a0_1 a0_2 ((rd_T68 l1 x46_2).f0) ((rd_T68 l1 x46_2).f1) ((rd_T68 l1 x46_2).f2)) else (if ((rd_T68 l1 x46_2).f1) > 1000000 then (impl_ShopOK.j2 k2 x5_2 l1 (l1.length : Int) x46_2 true a0_0 a0_1 a0_2 ((rd_T68 l1 x46_2).f0) ((rd_T68 l1 x46_2).f1) ((rd_T68 l1 x46_2).f2)) else (if (((rd_T68 l1 x46_2).f2).length : Int) < 1 then (impl_ShopOK.j2 k2 x5_2 l1 (l1.length : Int) x46_2 true a0_0 a0_1 a0_2 ((rd_T68 l1 x46_2).f0) ((rd_T68 l1 x46_2).f1) ((rd_T68 l1 x46_2).f2)) else (impl_ShopOK.j2 k2 x5_2 l1 (l1.length : Int) x46_2 (decide ((((rd_T68 l1 x46_2).f2).length : Int) > 8)) a0_0 a0_1 a0_2 ((rd_T68 l1 x46_2).f0) ((rd_T68 l1 x46_2).f1) ((rd_T68 l1 x46_2).f2)))))) else (none)) else (none)) = some r := by rw [if_pos rfl] at H; exact H
           clear H
           have H := H1
           clear H1
           have cKs : ((rd_T68 l1 x46_2).f0).size ≤ 40 := Decidable.byContradiction fun hn_ => by rw [if_neg hn_] at H; exact absurd H (by simp)
           rw [if_pos cKs] at H
           have cKl : x5_2.length < 1000 := Decidable.byContradiction fun hn_ => by rw [if_neg hn_] at H; exact absurd H (by simp)
           rw [if_pos cKl] at H
           have KS := Aside0.mk cKs
           have KL := Aside0.mk cKl
           clear cKs cKl
           by_cases c27 : inB x5_2 ((rd_T68 l1 x46_2).f0) = true
           ·rw [if_pos c27] at H
            have c27b0 : inB x5_2 ((rd_T68 l1 x46_2).f0) = true := c27
            clear c27
            (first | rw [c27b0] | (simp only [i64_w, i32_w]; rw [c27b0]) | skip)
            have H' := Aside0.mk H
            clear H
            have hnb28 := NB161_159.out
            have hnc28 := NB159_161.out
            have hcz29_0 : w22.cell? ⟨gb161, 0, none⟩ = some (.string (⟨#[]⟩ : ByteArray)) := (blk_cell BK161.out 0).trans rfl
            have hcz29_1 : w22.cell? ⟨gb161, 1, none⟩ = some (.int .i64 0) := (blk_cell BK161.out 1).trans rfl
            have hcz29_2 : w22.cell? ⟨gb161, 2, none⟩ = some (.slice none 0 0) := (blk_cell BK161.out 2).trans rfl
            have hfz29_0 := blk_frozen BK161.out 0
            have hfz29_1 := blk_frozen BK161.out 1
            have hfz29_2 := blk_frozen BK161.out 2
            go_wp2_with (first | ((with_reducible refine gate_callee (f := 37) rfl ?_); refine goesL_ (some 52) rfl rfl Tryd.func37 (by kernel_rfl) rfl #[.string ((rd_T68 l1 x46_2).f0)] rfl (by (try simp only [List.map_toArray, List.map_cons, List.map_nil]); first | done | rfl | (simp only [List.length_drop, List.length_take]; rfl)) ?_; (with_reducible refine (impl_NameOK.calls k2 ((rd_T68 l1 x46_2).f0) true _ A25.out (laid_on HT0.out (by repeat (first | (with_reducible first | exact HB.out | apply below_alloc | apply pw_below_drewN | apply below_drew1 | refine below_set ?_ GE159.out | refine below_set ?_ GE161.out) | exact HB.out)))).mono ?_); rintro e w30 ⟨rfl, hb⟩; refine ⟨_, rfl, ?_⟩; have n0_ := Aside0.mk (blk_below (g := gb159) (o := .cells #[.int .i64 a0_0, .int .i64 a0_1, .int .i64 a0_2] 38 (0, 0)) (by (with_reducible repeat (first | refine blk_drewN ?_ _ | refine blk_drew ?_ | refine blk_alloc ?_ _)); refine blk_far ?_ NB159_161.out _; (with_reducible repeat (first | refine blk_drewN ?_ _ | refine blk_drew ?_ | refine blk_alloc ?_ _)); refine blk_far ?_ NB159_161.out _; (with_reducible repeat (first | refine blk_drewN ?_ _ | refine blk_drew ?_ | refine blk_alloc ?_ _)); refine blk_far ?_ NB159_161.out _; (with_reducible repeat (first | refine blk_drewN ?_ _ | refine blk_drew ?_ | refine blk_alloc ?_ _)); exact BK159.out) hb); have n1_ := Aside0.mk (blk_below (g := gb161) (o := .cells #[.string ((rd_T68 l1 x46_2).f0), .int .i64 ((rd_T68 l1 x46_2).f1), .slice A160_2 ((rd_T68 l1 x46_2).f2).length c160_2] 68 (0, 0)) (by (with_reducible repeat (first | refine blk_drewN ?_ _ | refine blk_drew ?_ | refine blk_alloc ?_ _)); refine blk_put (cs := #[.string ((rd_T68 l1 x46_2).f0), .int .i64 ((rd_T68 l1 x46_2).f1), .slice none 0 0]) ?_ 2 _ rfl; (with_reducible repeat (first | refine blk_drewN ?_ _ | refine blk_drew ?_ | refine blk_alloc ?_ _)); refine blk_put (cs := #[.string ((rd_T68 l1 x46_2).f0), .int .i64 0, .slice none 0 0]) ?_ 1 _ rfl; (with_reducible repeat (first | refine blk_drewN ?_ _ | refine blk_drew ?_ | refine blk_alloc ?_ _)); refine blk_put (cs := #[.string (⟨#[]⟩ : ByteArray), .int .i64 0, .slice none 0 0]) ?_ 0 _ rfl; (with_reducible repeat (first | refine blk_drewN ?_ _ | refine blk_drew ?_ | refine blk_alloc ?_ _)); exact BK161.out) hb); have n2_ := Aside0.mk (below_step (by repeat (first | (with_reducible first | exact HB.out | apply below_alloc | apply pw_below_drewN | apply below_drew1 | refine below_set ?_ GE159.out | refine below_set ?_ GE161.out) | exact HB.out)) hb); clear BK159; clear BK161; clear HB; have BK159 := n0_; have BK161 := n1_; have HB := n2_; clear n0_ n1_ n2_; have m0_ := Aside0.mk (blk_below (g := BM) (o := om) (by (with_reducible repeat (first | refine blk_drewN ?_ _ | refine blk_drew ?_ | refine blk_alloc ?_ _ | refine obj_far ?_ GNE159.out _ | refine obj_far ?_ GNE161.out _ | refine obj_far ?_ GNE164.out _)); exact BKM.out) hb); clear BKM; have BKM := m0_; clear m0_; (try clear hb); (try clear hb2); (try clear hk); (try clear hi); have hcz31_0 : w30.cell? ⟨gb161, 0, none⟩ = some (.string ((rd_T68 l1 x46_2).f0)) := (blk_cell BK161.out 0).trans rfl; have hcz31_1 : w30.cell? ⟨gb161, 1, none⟩ = some (.int .i64 ((rd_T68 l1 x46_2).f1)) := (blk_cell BK161.out 1).trans rfl; have hcz31_2 : w30.cell? ⟨gb161, 2, none⟩ = some (.slice A160_2 ((rd_T68 l1 x46_2).f2).length c160_2) := (blk_cell BK161.out 2).trans rfl; have hfz31_0 := blk_frozen BK161.out 0; have hfz31_1 := blk_frozen BK161.out 1; have hfz31_2 := blk_frozen BK161.out 2) | ((with_reducible refine gate_ (Op.lookup 73 (.tmp 55) (.tmp 57) false) rfl ?_); (try (refine gate_guard (by rfl) ?_; dsimp only)); refine wpList_lookup_seen rfl rfl Tryd.underlying9 Tryd.underlying73 Tryd.underlying4 (by kernel_rfl) BM x5_2 om (by (with_reducible repeat (first | refine blk_drewN ?_ _ | refine blk_drew ?_ | refine blk_alloc ?_ _ | refine obj_far ?_ GNE159.out _ | refine obj_far ?_ GNE161.out _ | refine obj_far ?_ GNE164.out _)); exact BKM.out) HS.out ((rd_T68 l1 x46_2).f0) KS.out rfl rfl ?_; (try rw [c27b0])) | ((with_reducible refine gate_ (Op.mapUpdate 73 (.tmp 82) (.tmp 84) (.const (.bool true))) rfl ?_); refine wpList_update_seen rfl rfl Tryd.underlying9 Tryd.underlying73 Tryd.underlying4 BM x5_2 om (by (with_reducible repeat (first | refine blk_drewN ?_ _ | refine blk_drew ?_ | refine blk_alloc ?_ _ | refine obj_far ?_ GNE159.out _ | refine obj_far ?_ GNE161.out _ | refine obj_far ?_ GNE164.out _)); exact BKM.out) HS.out ((rd_T68 l1 x46_2).f0) KS.out KL.out rfl rfl rfl ?_; intro wm2 hsm2 hgr2; have n0_ := Aside0.mk (pw_below_grown (by repeat (first | (with_reducible first | exact HB.out | apply below_alloc | apply pw_below_drewN | apply below_drew1 | refine below_set ?_ GE159.out | refine below_set ?_ GE161.out | refine below_set ?_ GE164.out) | exact HB.out)) (some BM) (below_size (by repeat (first | (with_reducible first | exact HB.out | apply below_alloc | apply pw_below_drewN | apply below_drew1 | refine below_set ?_ GE159.out | refine below_set ?_ GE161.out | refine below_set ?_ GE164.out) | exact HB.out))) hgr2 (fun k_ hk_ => by cases hk_; exact HBM.out)); (try (have b_ := Aside0.mk (blk_grown (g := gb159) (o := _) (by (with_reducible repeat (first | refine blk_drewN ?_ _ | refine blk_drew ?_ | refine blk_alloc ?_ _ | refine blk_put (g := gb159) ?_ _ _ rfl | refine obj_far ?_ (NB159_161.out) _ | refine obj_far ?_ (NB159_164.out) _)); exact BK159.out) hgr2 (fun e_ => GNE159.out (Option.some.inj e_).symm)); clear BK159; have BK159 := b_; clear b_)); (try (have hzm159_0 : wm2.cell? ⟨gb159, 0, none⟩ = some (.int .i64 a0_0) := (blk_cell BK159.out 0).trans rfl)); (try (have hfm159_0 := blk_frozen BK159.out 0)); (try (have hzm159_1 : wm2.cell? ⟨gb159, 1, none⟩ = some (.int .i64 a0_1) := (blk_cell BK159.out 1).trans rfl)); (try (have hfm159_1 := blk_frozen BK159.out 1)); (try (have hzm159_2 : wm2.cell? ⟨gb159, 2, none⟩ = some (.int .i64 a0_2) := (blk_cell BK159.out 2).trans rfl)); (try (have hfm159_2 := blk_frozen BK159.out 2)); (try (have b_ := Aside0.mk (blk_grown (g := gb161) (o := _) (by (with_reducible repeat (first | refine blk_drewN ?_ _ | refine blk_drew ?_ | refine blk_alloc ?_ _ | refine blk_put (g := gb161) ?_ _ _ rfl | refine obj_far ?_ (NB161_159.out) _ | refine obj_far ?_ (NB161_164.out) _)); exact BK161.out) hgr2 (fun e_ => GNE161.out (Option.some.inj e_).symm)); clear BK161; have BK161 := b_; clear b_)); (try (have hzm161_0 : wm2.cell? ⟨gb161, 0, none⟩ = some (.string ((rd_T68 l1 x46_2).f0)) := (blk_cell BK161.out 0).trans rfl)); (try (have hfm161_0 := blk_frozen BK161.out 0)); (try (have hzm161_1 : wm2.cell? ⟨gb161, 1, none⟩ = some (.int .i64 ((rd_T68 l1 x46_2).f1)) := (blk_cell BK161.out 1).trans rfl)); (try (have hfm161_1 := blk_frozen BK161.out 1)); (try (have hzm161_2 : wm2.cell? ⟨gb161, 2, none⟩ = some ((.slice A160_2 ((rd_T68 l1 x46_2).f2).length c160_2)) := (blk_cell BK161.out 2).trans rfl)); (try (have hfm161_2 := blk_frozen BK161.out 2)); (try (have b_ := Aside0.mk (blk_grown (g := gb164) (o := _) (by (with_reducible repeat (first | refine blk_drewN ?_ _ | refine blk_drew ?_ | refine blk_alloc ?_ _ | refine blk_put (g := gb164) ?_ _ _ rfl | refine obj_far ?_ (NB164_159.out) _ | refine obj_far ?_ (NB164_161.out) _)); exact BK164.out) hgr2 (fun e_ => GNE164.out (Option.some.inj e_).symm)); clear BK164; have BK164 := b_; clear b_)); clear HB; have HB := n0_; clear n0_; clear BKM HS; obtain ⟨om, hom2, hos2⟩ := hsm2; have BKM := Aside0.mk hom2; have HS := Aside0.mk hos2; clear hom2 hos2 hgr2))
            go_meet
            case rel => exact ⟨_, (true), (by first | rfl | (simp; done) | (simp [*]; done)), H', ⟨by have := HJ2.out; have := HK2.out; first | omega | exact Nat.le_refl _⟩, ⟨by (with_reducible repeat (first | refine blk_drewN ?_ _ | refine blk_drew ?_ | refine blk_alloc ?_ _)); exact BK159.out⟩, ⟨by (with_reducible repeat (first | refine blk_drewN ?_ _ | refine blk_drew ?_ | refine blk_alloc ?_ _)); exact BK161.out⟩, ⟨⟨_, (by (with_reducible repeat (first | refine blk_drewN ?_ _ | refine blk_drew ?_ | refine blk_alloc ?_ _ | refine obj_far ?_ GNE159.out _ | refine obj_far ?_ GNE161.out _ | refine obj_far ?_ GNE164.out _)); exact BKM.out), HS.out⟩⟩, ⟨by repeat (first | (with_reducible first | exact HB.out | apply below_alloc | apply pw_below_drewN | apply below_drew1 | refine below_set ?_ GE159.out | refine below_set ?_ GE161.out) | exact HB.out)⟩⟩
           ·rw [if_neg c27] at H
            have c27b0 : inB x5_2 ((rd_T68 l1 x46_2).f0) = false := Bool.eq_false_iff.mpr c27
            clear c27
            (first | rw [c27b0] | (simp only [i64_w, i32_w]; rw [c27b0]) | skip)
            by_cases c32 : ((rd_T68 l1 x46_2).f1) < 0
            ·rw [if_pos c32] at H
             have c32b0 : decide (((rd_T68 l1 x46_2).f1) < 0) = true := decide_eq_true c32
             clear c32
             have H' := Aside0.mk H
             clear H
             have hnb33 := NB161_159.out
             have hnc33 := NB159_161.out
             have hcz34_0 : w22.cell? ⟨gb161, 0, none⟩ = some (.string (⟨#[]⟩ : ByteArray)) := (blk_cell BK161.out 0).trans rfl
             have hcz34_1 : w22.cell? ⟨gb161, 1, none⟩ = some (.int .i64 0) := (blk_cell BK161.out 1).trans rfl
             have hcz34_2 : w22.cell? ⟨gb161, 2, none⟩ = some (.slice none 0 0) := (blk_cell BK161.out 2).trans rfl
             have hfz34_0 := blk_frozen BK161.out 0
             have hfz34_1 := blk_frozen BK161.out 1
             have hfz34_2 := blk_frozen BK161.out 2
             go_wp2_with (first | ((with_reducible refine gate_callee (f := 37) rfl ?_); refine goesL_ (some 52) rfl rfl Tryd.func37 (by kernel_rfl) rfl #[.string ((rd_T68 l1 x46_2).f0)] rfl (by (try simp only [List.map_toArray, List.map_cons, List.map_nil]); first | done | rfl | (simp only [List.length_drop, List.length_take]; rfl)) ?_; (with_reducible refine (impl_NameOK.calls k2 ((rd_T68 l1 x46_2).f0) true _ A25.out (laid_on HT0.out (by repeat (first | (with_reducible first | exact HB.out | apply below_alloc | apply pw_below_drewN | apply below_drew1 | refine below_set ?_ GE159.out | refine below_set ?_ GE161.out) | exact HB.out)))).mono ?_); rintro e w35 ⟨rfl, hb⟩; refine ⟨_, rfl, ?_⟩; have n0_ := Aside0.mk (blk_below (g := gb159) (o := .cells #[.int .i64 a0_0, .int .i64 a0_1, .int .i64 a0_2] 38 (0, 0)) (by (with_reducible repeat (first | refine blk_drewN ?_ _ | refine blk_drew ?_ | refine blk_alloc ?_ _)); refine blk_far ?_ NB159_161.out _; (with_reducible repeat (first | refine blk_drewN ?_ _ | refine blk_drew ?_ | refine blk_alloc ?_ _)); refine blk_far ?_ NB159_161.out _; (with_reducible repeat (first | refine blk_drewN ?_ _ | refine blk_drew ?_ | refine blk_alloc ?_ _)); refine blk_far ?_ NB159_161.out _; (with_reducible repeat (first | refine blk_drewN ?_ _ | refine blk_drew ?_ | refine blk_alloc ?_ _)); exact BK159.out) hb); have n1_ := Aside0.mk (blk_below (g := gb161) (o := .cells #[.string ((rd_T68 l1 x46_2).f0), .int .i64 ((rd_T68 l1 x46_2).f1), .slice A160_2 ((rd_T68 l1 x46_2).f2).length c160_2] 68 (0, 0)) (by (with_reducible repeat (first | refine blk_drewN ?_ _ | refine blk_drew ?_ | refine blk_alloc ?_ _)); refine blk_put (cs := #[.string ((rd_T68 l1 x46_2).f0), .int .i64 ((rd_T68 l1 x46_2).f1), .slice none 0 0]) ?_ 2 _ rfl; (with_reducible repeat (first | refine blk_drewN ?_ _ | refine blk_drew ?_ | refine blk_alloc ?_ _)); refine blk_put (cs := #[.string ((rd_T68 l1 x46_2).f0), .int .i64 0, .slice none 0 0]) ?_ 1 _ rfl; (with_reducible repeat (first | refine blk_drewN ?_ _ | refine blk_drew ?_ | refine blk_alloc ?_ _)); refine blk_put (cs := #[.string (⟨#[]⟩ : ByteArray), .int .i64 0, .slice none 0 0]) ?_ 0 _ rfl; (with_reducible repeat (first | refine blk_drewN ?_ _ | refine blk_drew ?_ | refine blk_alloc ?_ _)); exact BK161.out) hb); have n2_ := Aside0.mk (below_step (by repeat (first | (with_reducible first | exact HB.out | apply below_alloc | apply pw_below_drewN | apply below_drew1 | refine below_set ?_ GE159.out | refine below_set ?_ GE161.out) | exact HB.out)) hb); clear BK159; clear BK161; clear HB; have BK159 := n0_; have BK161 := n1_; have HB := n2_; clear n0_ n1_ n2_; have m0_ := Aside0.mk (blk_below (g := BM) (o := om) (by (with_reducible repeat (first | refine blk_drewN ?_ _ | refine blk_drew ?_ | refine blk_alloc ?_ _ | refine obj_far ?_ GNE159.out _ | refine obj_far ?_ GNE161.out _ | refine obj_far ?_ GNE164.out _)); exact BKM.out) hb); clear BKM; have BKM := m0_; clear m0_; (try clear hb); (try clear hb2); (try clear hk); (try clear hi); have hcz36_0 : w35.cell? ⟨gb161, 0, none⟩ = some (.string ((rd_T68 l1 x46_2).f0)) := (blk_cell BK161.out 0).trans rfl; have hcz36_1 : w35.cell? ⟨gb161, 1, none⟩ = some (.int .i64 ((rd_T68 l1 x46_2).f1)) := (blk_cell BK161.out 1).trans rfl; have hcz36_2 : w35.cell? ⟨gb161, 2, none⟩ = some (.slice A160_2 ((rd_T68 l1 x46_2).f2).length c160_2) := (blk_cell BK161.out 2).trans rfl; have hfz36_0 := blk_frozen BK161.out 0; have hfz36_1 := blk_frozen BK161.out 1; have hfz36_2 := blk_frozen BK161.out 2) | ((with_reducible refine gate_ (Op.lookup 73 (.tmp 55) (.tmp 57) false) rfl ?_); (try (refine gate_guard (by rfl) ?_; dsimp only)); refine wpList_lookup_seen rfl rfl Tryd.underlying9 Tryd.underlying73 Tryd.underlying4 (by kernel_rfl) BM x5_2 om (by (with_reducible repeat (first | refine blk_drewN ?_ _ | refine blk_drew ?_ | refine blk_alloc ?_ _ | refine obj_far ?_ GNE159.out _ | refine obj_far ?_ GNE161.out _ | refine obj_far ?_ GNE164.out _)); exact BKM.out) HS.out ((rd_T68 l1 x46_2).f0) KS.out rfl rfl ?_; (try rw [c27b0])) | ((with_reducible refine gate_ (Op.mapUpdate 73 (.tmp 82) (.tmp 84) (.const (.bool true))) rfl ?_); refine wpList_update_seen rfl rfl Tryd.underlying9 Tryd.underlying73 Tryd.underlying4 BM x5_2 om (by (with_reducible repeat (first | refine blk_drewN ?_ _ | refine blk_drew ?_ | refine blk_alloc ?_ _ | refine obj_far ?_ GNE159.out _ | refine obj_far ?_ GNE161.out _ | refine obj_far ?_ GNE164.out _)); exact BKM.out) HS.out ((rd_T68 l1 x46_2).f0) KS.out KL.out rfl rfl rfl ?_; intro wm2 hsm2 hgr2; have n0_ := Aside0.mk (pw_below_grown (by repeat (first | (with_reducible first | exact HB.out | apply below_alloc | apply pw_below_drewN | apply below_drew1 | refine below_set ?_ GE159.out | refine below_set ?_ GE161.out | refine below_set ?_ GE164.out) | exact HB.out)) (some BM) (below_size (by repeat (first | (with_reducible first | exact HB.out | apply below_alloc | apply pw_below_drewN | apply below_drew1 | refine below_set ?_ GE159.out | refine below_set ?_ GE161.out | refine below_set ?_ GE164.out) | exact HB.out))) hgr2 (fun k_ hk_ => by cases hk_; exact HBM.out)); (try (have b_ := Aside0.mk (blk_grown (g := gb159) (o := _) (by (with_reducible repeat (first | refine blk_drewN ?_ _ | refine blk_drew ?_ | refine blk_alloc ?_ _ | refine blk_put (g := gb159) ?_ _ _ rfl | refine obj_far ?_ (NB159_161.out) _ | refine obj_far ?_ (NB159_164.out) _)); exact BK159.out) hgr2 (fun e_ => GNE159.out (Option.some.inj e_).symm)); clear BK159; have BK159 := b_; clear b_)); (try (have hzm159_0 : wm2.cell? ⟨gb159, 0, none⟩ = some (.int .i64 a0_0) := (blk_cell BK159.out 0).trans rfl)); (try (have hfm159_0 := blk_frozen BK159.out 0)); (try (have hzm159_1 : wm2.cell? ⟨gb159, 1, none⟩ = some (.int .i64 a0_1) := (blk_cell BK159.out 1).trans rfl)); (try (have hfm159_1 := blk_frozen BK159.out 1)); (try (have hzm159_2 : wm2.cell? ⟨gb159, 2, none⟩ = some (.int .i64 a0_2) := (blk_cell BK159.out 2).trans rfl)); (try (have hfm159_2 := blk_frozen BK159.out 2)); (try (have b_ := Aside0.mk (blk_grown (g := gb161) (o := _) (by (with_reducible repeat (first | refine blk_drewN ?_ _ | refine blk_drew ?_ | refine blk_alloc ?_ _ | refine blk_put (g := gb161) ?_ _ _ rfl | refine obj_far ?_ (NB161_159.out) _ | refine obj_far ?_ (NB161_164.out) _)); exact BK161.out) hgr2 (fun e_ => GNE161.out (Option.some.inj e_).symm)); clear BK161; have BK161 := b_; clear b_)); (try (have hzm161_0 : wm2.cell? ⟨gb161, 0, none⟩ = some (.string ((rd_T68 l1 x46_2).f0)) := (blk_cell BK161.out 0).trans rfl)); (try (have hfm161_0 := blk_frozen BK161.out 0)); (try (have hzm161_1 : wm2.cell? ⟨gb161, 1, none⟩ = some (.int .i64 ((rd_T68 l1 x46_2).f1)) := (blk_cell BK161.out 1).trans rfl)); (try (have hfm161_1 := blk_frozen BK161.out 1)); (try (have hzm161_2 : wm2.cell? ⟨gb161, 2, none⟩ = some ((.slice A160_2 ((rd_T68 l1 x46_2).f2).length c160_2)) := (blk_cell BK161.out 2).trans rfl)); (try (have hfm161_2 := blk_frozen BK161.out 2)); (try (have b_ := Aside0.mk (blk_grown (g := gb164) (o := _) (by (with_reducible repeat (first | refine blk_drewN ?_ _ | refine blk_drew ?_ | refine blk_alloc ?_ _ | refine blk_put (g := gb164) ?_ _ _ rfl | refine obj_far ?_ (NB164_159.out) _ | refine obj_far ?_ (NB164_161.out) _)); exact BK164.out) hgr2 (fun e_ => GNE164.out (Option.some.inj e_).symm)); clear BK164; have BK164 := b_; clear b_)); clear HB; have HB := n0_; clear n0_; clear BKM HS; obtain ⟨om, hom2, hos2⟩ := hsm2; have BKM := Aside0.mk hom2; have HS := Aside0.mk hos2; clear hom2 hos2 hgr2))
             go_meet
             case rel => exact ⟨_, (true), (by first | rfl | (simp; done) | (simp [*]; done)), H', ⟨by have := HJ2.out; have := HK2.out; first | omega | exact Nat.le_refl _⟩, ⟨by (with_reducible repeat (first | refine blk_drewN ?_ _ | refine blk_drew ?_ | refine blk_alloc ?_ _)); exact BK159.out⟩, ⟨by (with_reducible repeat (first | refine blk_drewN ?_ _ | refine blk_drew ?_ | refine blk_alloc ?_ _)); exact BK161.out⟩, ⟨⟨_, (by (with_reducible repeat (first | refine blk_drewN ?_ _ | refine blk_drew ?_ | refine blk_alloc ?_ _ | refine obj_far ?_ GNE159.out _ | refine obj_far ?_ GNE161.out _ | refine obj_far ?_ GNE164.out _)); exact BKM.out), HS.out⟩⟩, ⟨by repeat (first | (with_reducible first | exact HB.out | apply below_alloc | apply pw_below_drewN | apply below_drew1 | refine below_set ?_ GE159.out | refine below_set ?_ GE161.out) | exact HB.out)⟩⟩
            ·rw [if_neg c32] at H
             have c32b0 : decide (((rd_T68 l1 x46_2).f1) < 0) = false := decide_eq_false c32
             clear c32
             by_cases c37 : ((rd_T68 l1 x46_2).f1) > 1000000
             ·rw [if_pos c37] at H
              have c37b0 : decide (1000000 < ((rd_T68 l1 x46_2).f1)) = true := decide_eq_true c37
              clear c37
              have H' := Aside0.mk H
              clear H
              have hnb38 := NB161_159.out
              have hnc38 := NB159_161.out
              have hcz39_0 : w22.cell? ⟨gb161, 0, none⟩ = some (.string (⟨#[]⟩ : ByteArray)) := (blk_cell BK161.out 0).trans rfl
              have hcz39_1 : w22.cell? ⟨gb161, 1, none⟩ = some (.int .i64 0) := (blk_cell BK161.out 1).trans rfl
              have hcz39_2 : w22.cell? ⟨gb161, 2, none⟩ = some (.slice none 0 0) := (blk_cell BK161.out 2).trans rfl
              have hfz39_0 := blk_frozen BK161.out 0
              have hfz39_1 := blk_frozen BK161.out 1
              have hfz39_2 := blk_frozen BK161.out 2
              go_wp2_with (first | ((with_reducible refine gate_callee (f := 37) rfl ?_); refine goesL_ (some 52) rfl rfl Tryd.func37 (by kernel_rfl) rfl #[.string ((rd_T68 l1 x46_2).f0)] rfl (by (try simp only [List.map_toArray, List.map_cons, List.map_nil]); first | done | rfl | (simp only [List.length_drop, List.length_take]; rfl)) ?_; (with_reducible refine (impl_NameOK.calls k2 ((rd_T68 l1 x46_2).f0) true _ A25.out (laid_on HT0.out (by repeat (first | (with_reducible first | exact HB.out | apply below_alloc | apply pw_below_drewN | apply below_drew1 | refine below_set ?_ GE159.out | refine below_set ?_ GE161.out) | exact HB.out)))).mono ?_); rintro e w40 ⟨rfl, hb⟩; refine ⟨_, rfl, ?_⟩; have n0_ := Aside0.mk (blk_below (g := gb159) (o := .cells #[.int .i64 a0_0, .int .i64 a0_1, .int .i64 a0_2] 38 (0, 0)) (by (with_reducible repeat (first | refine blk_drewN ?_ _ | refine blk_drew ?_ | refine blk_alloc ?_ _)); refine blk_far ?_ NB159_161.out _; (with_reducible repeat (first | refine blk_drewN ?_ _ | refine blk_drew ?_ | refine blk_alloc ?_ _)); refine blk_far ?_ NB159_161.out _; (with_reducible repeat (first | refine blk_drewN ?_ _ | refine blk_drew ?_ | refine blk_alloc ?_ _)); refine blk_far ?_ NB159_161.out _; (with_reducible repeat (first | refine blk_drewN ?_ _ | refine blk_drew ?_ | refine blk_alloc ?_ _)); exact BK159.out) hb); have n1_ := Aside0.mk (blk_below (g := gb161) (o := .cells #[.string ((rd_T68 l1 x46_2).f0), .int .i64 ((rd_T68 l1 x46_2).f1), .slice A160_2 ((rd_T68 l1 x46_2).f2).length c160_2] 68 (0, 0)) (by (with_reducible repeat (first | refine blk_drewN ?_ _ | refine blk_drew ?_ | refine blk_alloc ?_ _)); refine blk_put (cs := #[.string ((rd_T68 l1 x46_2).f0), .int .i64 ((rd_T68 l1 x46_2).f1), .slice none 0 0]) ?_ 2 _ rfl; (with_reducible repeat (first | refine blk_drewN ?_ _ | refine blk_drew ?_ | refine blk_alloc ?_ _)); refine blk_put (cs := #[.string ((rd_T68 l1 x46_2).f0), .int .i64 0, .slice none 0 0]) ?_ 1 _ rfl; (with_reducible repeat (first | refine blk_drewN ?_ _ | refine blk_drew ?_ | refine blk_alloc ?_ _)); refine blk_put (cs := #[.string (⟨#[]⟩ : ByteArray), .int .i64 0, .slice none 0 0]) ?_ 0 _ rfl; (with_reducible repeat (first | refine blk_drewN ?_ _ | refine blk_drew ?_ | refine blk_alloc ?_ _)); exact BK161.out) hb); have n2_ := Aside0.mk (below_step (by repeat (first | (with_reducible first | exact HB.out | apply below_alloc | apply pw_below_drewN | apply below_drew1 | refine below_set ?_ GE159.out | refine below_set ?_ GE161.out) | exact HB.out)) hb); clear BK159; clear BK161; clear HB; have BK159 := n0_; have BK161 := n1_; have HB := n2_; clear n0_ n1_ n2_; have m0_ := Aside0.mk (blk_below (g := BM) (o := om) (by (with_reducible repeat (first | refine blk_drewN ?_ _ | refine blk_drew ?_ | refine blk_alloc ?_ _ | refine obj_far ?_ GNE159.out _ | refine obj_far ?_ GNE161.out _ | refine obj_far ?_ GNE164.out _)); exact BKM.out) hb); clear BKM; have BKM := m0_; clear m0_; (try clear hb); (try clear hb2); (try clear hk); (try clear hi); have hcz41_0 : w40.cell? ⟨gb161, 0, none⟩ = some (.string ((rd_T68 l1 x46_2).f0)) := (blk_cell BK161.out 0).trans rfl; have hcz41_1 : w40.cell? ⟨gb161, 1, none⟩ = some (.int .i64 ((rd_T68 l1 x46_2).f1)) := (blk_cell BK161.out 1).trans rfl; have hcz41_2 : w40.cell? ⟨gb161, 2, none⟩ = some (.slice A160_2 ((rd_T68 l1 x46_2).f2).length c160_2) := (blk_cell BK161.out 2).trans rfl; have hfz41_0 := blk_frozen BK161.out 0; have hfz41_1 := blk_frozen BK161.out 1; have hfz41_2 := blk_frozen BK161.out 2) | ((with_reducible refine gate_ (Op.lookup 73 (.tmp 55) (.tmp 57) false) rfl ?_); (try (refine gate_guard (by rfl) ?_; dsimp only)); refine wpList_lookup_seen rfl rfl Tryd.underlying9 Tryd.underlying73 Tryd.underlying4 (by kernel_rfl) BM x5_2 om (by (with_reducible repeat (first | refine blk_drewN ?_ _ | refine blk_drew ?_ | refine blk_alloc ?_ _ | refine obj_far ?_ GNE159.out _ | refine obj_far ?_ GNE161.out _ | refine obj_far ?_ GNE164.out _)); exact BKM.out) HS.out ((rd_T68 l1 x46_2).f0) KS.out rfl rfl ?_; (try rw [c27b0])) | ((with_reducible refine gate_ (Op.mapUpdate 73 (.tmp 82) (.tmp 84) (.const (.bool true))) rfl ?_); refine wpList_update_seen rfl rfl Tryd.underlying9 Tryd.underlying73 Tryd.underlying4 BM x5_2 om (by (with_reducible repeat (first | refine blk_drewN ?_ _ | refine blk_drew ?_ | refine blk_alloc ?_ _ | refine obj_far ?_ GNE159.out _ | refine obj_far ?_ GNE161.out _ | refine obj_far ?_ GNE164.out _)); exact BKM.out) HS.out ((rd_T68 l1 x46_2).f0) KS.out KL.out rfl rfl rfl ?_; intro wm2 hsm2 hgr2; have n0_ := Aside0.mk (pw_below_grown (by repeat (first | (with_reducible first | exact HB.out | apply below_alloc | apply pw_below_drewN | apply below_drew1 | refine below_set ?_ GE159.out | refine below_set ?_ GE161.out | refine below_set ?_ GE164.out) | exact HB.out)) (some BM) (below_size (by repeat (first | (with_reducible first | exact HB.out | apply below_alloc | apply pw_below_drewN | apply below_drew1 | refine below_set ?_ GE159.out | refine below_set ?_ GE161.out | refine below_set ?_ GE164.out) | exact HB.out))) hgr2 (fun k_ hk_ => by cases hk_; exact HBM.out)); (try (have b_ := Aside0.mk (blk_grown (g := gb159) (o := _) (by (with_reducible repeat (first | refine blk_drewN ?_ _ | refine blk_drew ?_ | refine blk_alloc ?_ _ | refine blk_put (g := gb159) ?_ _ _ rfl | refine obj_far ?_ (NB159_161.out) _ | refine obj_far ?_ (NB159_164.out) _)); exact BK159.out) hgr2 (fun e_ => GNE159.out (Option.some.inj e_).symm)); clear BK159; have BK159 := b_; clear b_)); (try (have hzm159_0 : wm2.cell? ⟨gb159, 0, none⟩ = some (.int .i64 a0_0) := (blk_cell BK159.out 0).trans rfl)); (try (have hfm159_0 := blk_frozen BK159.out 0)); (try (have hzm159_1 : wm2.cell? ⟨gb159, 1, none⟩ = some (.int .i64 a0_1) := (blk_cell BK159.out 1).trans rfl)); (try (have hfm159_1 := blk_frozen BK159.out 1)); (try (have hzm159_2 : wm2.cell? ⟨gb159, 2, none⟩ = some (.int .i64 a0_2) := (blk_cell BK159.out 2).trans rfl)); (try (have hfm159_2 := blk_frozen BK159.out 2)); (try (have b_ := Aside0.mk (blk_grown (g := gb161) (o := _) (by (with_reducible repeat (first | refine blk_drewN ?_ _ | refine blk_drew ?_ | refine blk_alloc ?_ _ | refine blk_put (g := gb161) ?_ _ _ rfl | refine obj_far ?_ (NB161_159.out) _ | refine obj_far ?_ (NB161_164.out) _)); exact BK161.out) hgr2 (fun e_ => GNE161.out (Option.some.inj e_).symm)); clear BK161; have BK161 := b_; clear b_)); (try (have hzm161_0 : wm2.cell? ⟨gb161, 0, none⟩ = some (.string ((rd_T68 l1 x46_2).f0)) := (blk_cell BK161.out 0).trans rfl)); (try (have hfm161_0 := blk_frozen BK161.out 0)); (try (have hzm161_1 : wm2.cell? ⟨gb161, 1, none⟩ = some (.int .i64 ((rd_T68 l1 x46_2).f1)) := (blk_cell BK161.out 1).trans rfl)); (try (have hfm161_1 := blk_frozen BK161.out 1)); (try (have hzm161_2 : wm2.cell? ⟨gb161, 2, none⟩ = some ((.slice A160_2 ((rd_T68 l1 x46_2).f2).length c160_2)) := (blk_cell BK161.out 2).trans rfl)); (try (have hfm161_2 := blk_frozen BK161.out 2)); (try (have b_ := Aside0.mk (blk_grown (g := gb164) (o := _) (by (with_reducible repeat (first | refine blk_drewN ?_ _ | refine blk_drew ?_ | refine blk_alloc ?_ _ | refine blk_put (g := gb164) ?_ _ _ rfl | refine obj_far ?_ (NB164_159.out) _ | refine obj_far ?_ (NB164_161.out) _)); exact BK164.out) hgr2 (fun e_ => GNE164.out (Option.some.inj e_).symm)); clear BK164; have BK164 := b_; clear b_)); clear HB; have HB := n0_; clear n0_; clear BKM HS; obtain ⟨om, hom2, hos2⟩ := hsm2; have BKM := Aside0.mk hom2; have HS := Aside0.mk hos2; clear hom2 hos2 hgr2))
              go_meet
              case rel => exact ⟨_, (true), (by first | rfl | (simp; done) | (simp [*]; done)), H', ⟨by have := HJ2.out; have := HK2.out; first | omega | exact Nat.le_refl _⟩, ⟨by (with_reducible repeat (first | refine blk_drewN ?_ _ | refine blk_drew ?_ | refine blk_alloc ?_ _)); exact BK159.out⟩, ⟨by (with_reducible repeat (first | refine blk_drewN ?_ _ | refine blk_drew ?_ | refine blk_alloc ?_ _)); exact BK161.out⟩, ⟨⟨_, (by (with_reducible repeat (first | refine blk_drewN ?_ _ | refine blk_drew ?_ | refine blk_alloc ?_ _ | refine obj_far ?_ GNE159.out _ | refine obj_far ?_ GNE161.out _ | refine obj_far ?_ GNE164.out _)); exact BKM.out), HS.out⟩⟩, ⟨by repeat (first | (with_reducible first | exact HB.out | apply below_alloc | apply pw_below_drewN | apply below_drew1 | refine below_set ?_ GE159.out | refine below_set ?_ GE161.out) | exact HB.out)⟩⟩
             ·rw [if_neg c37] at H
              have c37b0 : decide (1000000 < ((rd_T68 l1 x46_2).f1)) = false := decide_eq_false c37
              clear c37
              by_cases c42 : (((rd_T68 l1 x46_2).f2).length : Int) < 1
              ·rw [if_pos c42] at H
               have c42b0 : decide ((((rd_T68 l1 x46_2).f2).length : Int) < 1) = true := decide_eq_true c42
               have c42b1 : decide (((rd_T68 l1 x46_2).f2).length < 1) = true := decide_eq_true (by omega)
               clear c42
               have H' := Aside0.mk H
               clear H
               have hnb43 := NB161_159.out
               have hnc43 := NB159_161.out
               have hcz44_0 : w22.cell? ⟨gb161, 0, none⟩ = some (.string (⟨#[]⟩ : ByteArray)) := (blk_cell BK161.out 0).trans rfl
               have hcz44_1 : w22.cell? ⟨gb161, 1, none⟩ = some (.int .i64 0) := (blk_cell BK161.out 1).trans rfl
               have hcz44_2 : w22.cell? ⟨gb161, 2, none⟩ = some (.slice none 0 0) := (blk_cell BK161.out 2).trans rfl
               have hfz44_0 := blk_frozen BK161.out 0
               have hfz44_1 := blk_frozen BK161.out 1
               have hfz44_2 := blk_frozen BK161.out 2
               go_wp2_with (first | ((with_reducible refine gate_callee (f := 37) rfl ?_); refine goesL_ (some 52) rfl rfl Tryd.func37 (by kernel_rfl) rfl #[.string ((rd_T68 l1 x46_2).f0)] rfl (by (try simp only [List.map_toArray, List.map_cons, List.map_nil]); first | done | rfl | (simp only [List.length_drop, List.length_take]; rfl)) ?_; (with_reducible refine (impl_NameOK.calls k2 ((rd_T68 l1 x46_2).f0) true _ A25.out (laid_on HT0.out (by repeat (first | (with_reducible first | exact HB.out | apply below_alloc | apply pw_below_drewN | apply below_drew1 | refine below_set ?_ GE159.out | refine below_set ?_ GE161.out) | exact HB.out)))).mono ?_); rintro e w45 ⟨rfl, hb⟩; refine ⟨_, rfl, ?_⟩; have n0_ := Aside0.mk (blk_below (g := gb159) (o := .cells #[.int .i64 a0_0, .int .i64 a0_1, .int .i64 a0_2] 38 (0, 0)) (by (with_reducible repeat (first | refine blk_drewN ?_ _ | refine blk_drew ?_ | refine blk_alloc ?_ _)); refine blk_far ?_ NB159_161.out _; (with_reducible repeat (first | refine blk_drewN ?_ _ | refine blk_drew ?_ | refine blk_alloc ?_ _)); refine blk_far ?_ NB159_161.out _; (with_reducible repeat (first | refine blk_drewN ?_ _ | refine blk_drew ?_ | refine blk_alloc ?_ _)); refine blk_far ?_ NB159_161.out _; (with_reducible repeat (first | refine blk_drewN ?_ _ | refine blk_drew ?_ | refine blk_alloc ?_ _)); exact BK159.out) hb); have n1_ := Aside0.mk (blk_below (g := gb161) (o := .cells #[.string ((rd_T68 l1 x46_2).f0), .int .i64 ((rd_T68 l1 x46_2).f1), .slice A160_2 ((rd_T68 l1 x46_2).f2).length c160_2] 68 (0, 0)) (by (with_reducible repeat (first | refine blk_drewN ?_ _ | refine blk_drew ?_ | refine blk_alloc ?_ _)); refine blk_put (cs := #[.string ((rd_T68 l1 x46_2).f0), .int .i64 ((rd_T68 l1 x46_2).f1), .slice none 0 0]) ?_ 2 _ rfl; (with_reducible repeat (first | refine blk_drewN ?_ _ | refine blk_drew ?_ | refine blk_alloc ?_ _)); refine blk_put (cs := #[.string ((rd_T68 l1 x46_2).f0), .int .i64 0, .slice none 0 0]) ?_ 1 _ rfl; (with_reducible repeat (first | refine blk_drewN ?_ _ | refine blk_drew ?_ | refine blk_alloc ?_ _)); refine blk_put (cs := #[.string (⟨#[]⟩ : ByteArray), .int .i64 0, .slice none 0 0]) ?_ 0 _ rfl; (with_reducible repeat (first | refine blk_drewN ?_ _ | refine blk_drew ?_ | refine blk_alloc ?_ _)); exact BK161.out) hb); have n2_ := Aside0.mk (below_step (by repeat (first | (with_reducible first | exact HB.out | apply below_alloc | apply pw_below_drewN | apply below_drew1 | refine below_set ?_ GE159.out | refine below_set ?_ GE161.out) | exact HB.out)) hb); clear BK159; clear BK161; clear HB; have BK159 := n0_; have BK161 := n1_; have HB := n2_; clear n0_ n1_ n2_; have m0_ := Aside0.mk (blk_below (g := BM) (o := om) (by (with_reducible repeat (first | refine blk_drewN ?_ _ | refine blk_drew ?_ | refine blk_alloc ?_ _ | refine obj_far ?_ GNE159.out _ | refine obj_far ?_ GNE161.out _ | refine obj_far ?_ GNE164.out _)); exact BKM.out) hb); clear BKM; have BKM := m0_; clear m0_; (try clear hb); (try clear hb2); (try clear hk); (try clear hi); have hcz46_0 : w45.cell? ⟨gb161, 0, none⟩ = some (.string ((rd_T68 l1 x46_2).f0)) := (blk_cell BK161.out 0).trans rfl; have hcz46_1 : w45.cell? ⟨gb161, 1, none⟩ = some (.int .i64 ((rd_T68 l1 x46_2).f1)) := (blk_cell BK161.out 1).trans rfl; have hcz46_2 : w45.cell? ⟨gb161, 2, none⟩ = some (.slice A160_2 ((rd_T68 l1 x46_2).f2).length c160_2) := (blk_cell BK161.out 2).trans rfl; have hfz46_0 := blk_frozen BK161.out 0; have hfz46_1 := blk_frozen BK161.out 1; have hfz46_2 := blk_frozen BK161.out 2) | ((with_reducible refine gate_ (Op.lookup 73 (.tmp 55) (.tmp 57) false) rfl ?_); (try (refine gate_guard (by rfl) ?_; dsimp only)); refine wpList_lookup_seen rfl rfl Tryd.underlying9 Tryd.underlying73 Tryd.underlying4 (by kernel_rfl) BM x5_2 om (by (with_reducible repeat (first | refine blk_drewN ?_ _ | refine blk_drew ?_ | refine blk_alloc ?_ _ | refine obj_far ?_ GNE159.out _ | refine obj_far ?_ GNE161.out _ | refine obj_far ?_ GNE164.out _)); exact BKM.out) HS.out ((rd_T68 l1 x46_2).f0) KS.out rfl rfl ?_; (try rw [c27b0])) | ((with_reducible refine gate_ (Op.mapUpdate 73 (.tmp 82) (.tmp 84) (.const (.bool true))) rfl ?_); refine wpList_update_seen rfl rfl Tryd.underlying9 Tryd.underlying73 Tryd.underlying4 BM x5_2 om (by (with_reducible repeat (first | refine blk_drewN ?_ _ | refine blk_drew ?_ | refine blk_alloc ?_ _ | refine obj_far ?_ GNE159.out _ | refine obj_far ?_ GNE161.out _ | refine obj_far ?_ GNE164.out _)); exact BKM.out) HS.out ((rd_T68 l1 x46_2).f0) KS.out KL.out rfl rfl rfl ?_; intro wm2 hsm2 hgr2; have n0_ := Aside0.mk (pw_below_grown (by repeat (first | (with_reducible first | exact HB.out | apply below_alloc | apply pw_below_drewN | apply below_drew1 | refine below_set ?_ GE159.out | refine below_set ?_ GE161.out | refine below_set ?_ GE164.out) | exact HB.out)) (some BM) (below_size (by repeat (first | (with_reducible first | exact HB.out | apply below_alloc | apply pw_below_drewN | apply below_drew1 | refine below_set ?_ GE159.out | refine below_set ?_ GE161.out | refine below_set ?_ GE164.out) | exact HB.out))) hgr2 (fun k_ hk_ => by cases hk_; exact HBM.out)); (try (have b_ := Aside0.mk (blk_grown (g := gb159) (o := _) (by (with_reducible repeat (first | refine blk_drewN ?_ _ | refine blk_drew ?_ | refine blk_alloc ?_ _ | refine blk_put (g := gb159) ?_ _ _ rfl | refine obj_far ?_ (NB159_161.out) _ | refine obj_far ?_ (NB159_164.out) _)); exact BK159.out) hgr2 (fun e_ => GNE159.out (Option.some.inj e_).symm)); clear BK159; have BK159 := b_; clear b_)); (try (have hzm159_0 : wm2.cell? ⟨gb159, 0, none⟩ = some (.int .i64 a0_0) := (blk_cell BK159.out 0).trans rfl)); (try (have hfm159_0 := blk_frozen BK159.out 0)); (try (have hzm159_1 : wm2.cell? ⟨gb159, 1, none⟩ = some (.int .i64 a0_1) := (blk_cell BK159.out 1).trans rfl)); (try (have hfm159_1 := blk_frozen BK159.out 1)); (try (have hzm159_2 : wm2.cell? ⟨gb159, 2, none⟩ = some (.int .i64 a0_2) := (blk_cell BK159.out 2).trans rfl)); (try (have hfm159_2 := blk_frozen BK159.out 2)); (try (have b_ := Aside0.mk (blk_grown (g := gb161) (o := _) (by (with_reducible repeat (first | refine blk_drewN ?_ _ | refine blk_drew ?_ | refine blk_alloc ?_ _ | refine blk_put (g := gb161) ?_ _ _ rfl | refine obj_far ?_ (NB161_159.out) _ | refine obj_far ?_ (NB161_164.out) _)); exact BK161.out) hgr2 (fun e_ => GNE161.out (Option.some.inj e_).symm)); clear BK161; have BK161 := b_; clear b_)); (try (have hzm161_0 : wm2.cell? ⟨gb161, 0, none⟩ = some (.string ((rd_T68 l1 x46_2).f0)) := (blk_cell BK161.out 0).trans rfl)); (try (have hfm161_0 := blk_frozen BK161.out 0)); (try (have hzm161_1 : wm2.cell? ⟨gb161, 1, none⟩ = some (.int .i64 ((rd_T68 l1 x46_2).f1)) := (blk_cell BK161.out 1).trans rfl)); (try (have hfm161_1 := blk_frozen BK161.out 1)); (try (have hzm161_2 : wm2.cell? ⟨gb161, 2, none⟩ = some ((.slice A160_2 ((rd_T68 l1 x46_2).f2).length c160_2)) := (blk_cell BK161.out 2).trans rfl)); (try (have hfm161_2 := blk_frozen BK161.out 2)); (try (have b_ := Aside0.mk (blk_grown (g := gb164) (o := _) (by (with_reducible repeat (first | refine blk_drewN ?_ _ | refine blk_drew ?_ | refine blk_alloc ?_ _ | refine blk_put (g := gb164) ?_ _ _ rfl | refine obj_far ?_ (NB164_159.out) _ | refine obj_far ?_ (NB164_161.out) _)); exact BK164.out) hgr2 (fun e_ => GNE164.out (Option.some.inj e_).symm)); clear BK164; have BK164 := b_; clear b_)); clear HB; have HB := n0_; clear n0_; clear BKM HS; obtain ⟨om, hom2, hos2⟩ := hsm2; have BKM := Aside0.mk hom2; have HS := Aside0.mk hos2; clear hom2 hos2 hgr2))
               go_meet
               case rel => exact ⟨_, (true), (by first | rfl | (simp; done) | (simp [*]; done)), H', ⟨by have := HJ2.out; have := HK2.out; first | omega | exact Nat.le_refl _⟩, ⟨by (with_reducible repeat (first | refine blk_drewN ?_ _ | refine blk_drew ?_ | refine blk_alloc ?_ _)); exact BK159.out⟩, ⟨by (with_reducible repeat (first | refine blk_drewN ?_ _ | refine blk_drew ?_ | refine blk_alloc ?_ _)); exact BK161.out⟩, ⟨⟨_, (by (with_reducible repeat (first | refine blk_drewN ?_ _ | refine blk_drew ?_ | refine blk_alloc ?_ _ | refine obj_far ?_ GNE159.out _ | refine obj_far ?_ GNE161.out _ | refine obj_far ?_ GNE164.out _)); exact BKM.out), HS.out⟩⟩, ⟨by repeat (first | (with_reducible first | exact HB.out | apply below_alloc | apply pw_below_drewN | apply below_drew1 | refine below_set ?_ GE159.out | refine below_set ?_ GE161.out) | exact HB.out)⟩⟩
              ·rw [if_neg c42] at H
               have c42b0 : decide ((((rd_T68 l1 x46_2).f2).length : Int) < 1) = false := decide_eq_false c42
               have c42b1 : decide (((rd_T68 l1 x46_2).f2).length < 1) = false := decide_eq_false (by omega)
               clear c42
               have H' := Aside0.mk H
               clear H
               have hnb47 := NB161_159.out
               have hnc47 := NB159_161.out
               have hcz48_0 : w22.cell? ⟨gb161, 0, none⟩ = some (.string (⟨#[]⟩ : ByteArray)) := (blk_cell BK161.out 0).trans rfl
               have hcz48_1 : w22.cell? ⟨gb161, 1, none⟩ = some (.int .i64 0) := (blk_cell BK161.out 1).trans rfl
               have hcz48_2 : w22.cell? ⟨gb161, 2, none⟩ = some (.slice none 0 0) := (blk_cell BK161.out 2).trans rfl
               have hfz48_0 := blk_frozen BK161.out 0
               have hfz48_1 := blk_frozen BK161.out 1
               have hfz48_2 := blk_frozen BK161.out 2
               go_wp2_with (first | ((with_reducible refine gate_callee (f := 37) rfl ?_); refine goesL_ (some 52) rfl rfl Tryd.func37 (by kernel_rfl) rfl #[.string ((rd_T68 l1 x46_2).f0)] rfl (by (try simp only [List.map_toArray, List.map_cons, List.map_nil]); first | done | rfl | (simp only [List.length_drop, List.length_take]; rfl)) ?_; (with_reducible refine (impl_NameOK.calls k2 ((rd_T68 l1 x46_2).f0) true _ A25.out (laid_on HT0.out (by repeat (first | (with_reducible first | exact HB.out | apply below_alloc | apply pw_below_drewN | apply below_drew1 | refine below_set ?_ GE159.out | refine below_set ?_ GE161.out) | exact HB.out)))).mono ?_); rintro e w49 ⟨rfl, hb⟩; refine ⟨_, rfl, ?_⟩; have n0_ := Aside0.mk (blk_below (g := gb159) (o := .cells #[.int .i64 a0_0, .int .i64 a0_1, .int .i64 a0_2] 38 (0, 0)) (by (with_reducible repeat (first | refine blk_drewN ?_ _ | refine blk_drew ?_ | refine blk_alloc ?_ _)); refine blk_far ?_ NB159_161.out _; (with_reducible repeat (first | refine blk_drewN ?_ _ | refine blk_drew ?_ | refine blk_alloc ?_ _)); refine blk_far ?_ NB159_161.out _; (with_reducible repeat (first | refine blk_drewN ?_ _ | refine blk_drew ?_ | refine blk_alloc ?_ _)); refine blk_far ?_ NB159_161.out _; (with_reducible repeat (first | refine blk_drewN ?_ _ | refine blk_drew ?_ | refine blk_alloc ?_ _)); exact BK159.out) hb); have n1_ := Aside0.mk (blk_below (g := gb161) (o := .cells #[.string ((rd_T68 l1 x46_2).f0), .int .i64 ((rd_T68 l1 x46_2).f1), .slice A160_2 ((rd_T68 l1 x46_2).f2).length c160_2] 68 (0, 0)) (by (with_reducible repeat (first | refine blk_drewN ?_ _ | refine blk_drew ?_ | refine blk_alloc ?_ _)); refine blk_put (cs := #[.string ((rd_T68 l1 x46_2).f0), .int .i64 ((rd_T68 l1 x46_2).f1), .slice none 0 0]) ?_ 2 _ rfl; (with_reducible repeat (first | refine blk_drewN ?_ _ | refine blk_drew ?_ | refine blk_alloc ?_ _)); refine blk_put (cs := #[.string ((rd_T68 l1 x46_2).f0), .int .i64 0, .slice none 0 0]) ?_ 1 _ rfl; (with_reducible repeat (first | refine blk_drewN ?_ _ | refine blk_drew ?_ | refine blk_alloc ?_ _)); refine blk_put (cs := #[.string (⟨#[]⟩ : ByteArray), .int .i64 0, .slice none 0 0]) ?_ 0 _ rfl; (with_reducible repeat (first | refine blk_drewN ?_ _ | refine blk_drew ?_ | refine blk_alloc ?_ _)); exact BK161.out) hb); have n2_ := Aside0.mk (below_step (by repeat (first | (with_reducible first | exact HB.out | apply below_alloc | apply pw_below_drewN | apply below_drew1 | refine below_set ?_ GE159.out | refine below_set ?_ GE161.out) | exact HB.out)) hb); clear BK159; clear BK161; clear HB; have BK159 := n0_; have BK161 := n1_; have HB := n2_; clear n0_ n1_ n2_; have m0_ := Aside0.mk (blk_below (g := BM) (o := om) (by (with_reducible repeat (first | refine blk_drewN ?_ _ | refine blk_drew ?_ | refine blk_alloc ?_ _ | refine obj_far ?_ GNE159.out _ | refine obj_far ?_ GNE161.out _ | refine obj_far ?_ GNE164.out _)); exact BKM.out) hb); clear BKM; have BKM := m0_; clear m0_; (try clear hb); (try clear hb2); (try clear hk); (try clear hi); have hcz50_0 : w49.cell? ⟨gb161, 0, none⟩ = some (.string ((rd_T68 l1 x46_2).f0)) := (blk_cell BK161.out 0).trans rfl; have hcz50_1 : w49.cell? ⟨gb161, 1, none⟩ = some (.int .i64 ((rd_T68 l1 x46_2).f1)) := (blk_cell BK161.out 1).trans rfl; have hcz50_2 : w49.cell? ⟨gb161, 2, none⟩ = some (.slice A160_2 ((rd_T68 l1 x46_2).f2).length c160_2) := (blk_cell BK161.out 2).trans rfl; have hfz50_0 := blk_frozen BK161.out 0; have hfz50_1 := blk_frozen BK161.out 1; have hfz50_2 := blk_frozen BK161.out 2) | ((with_reducible refine gate_ (Op.lookup 73 (.tmp 55) (.tmp 57) false) rfl ?_); (try (refine gate_guard (by rfl) ?_; dsimp only)); refine wpList_lookup_seen rfl rfl Tryd.underlying9 Tryd.underlying73 Tryd.underlying4 (by kernel_rfl) BM x5_2 om (by (with_reducible repeat (first | refine blk_drewN ?_ _ | refine blk_drew ?_ | refine blk_alloc ?_ _ | refine obj_far ?_ GNE159.out _ | refine obj_far ?_ GNE161.out _ | refine obj_far ?_ GNE164.out _)); exact BKM.out) HS.out ((rd_T68 l1 x46_2).f0) KS.out rfl rfl ?_; (try rw [c27b0])) | ((with_reducible refine gate_ (Op.mapUpdate 73 (.tmp 82) (.tmp 84) (.const (.bool true))) rfl ?_); refine wpList_update_seen rfl rfl Tryd.underlying9 Tryd.underlying73 Tryd.underlying4 BM x5_2 om (by (with_reducible repeat (first | refine blk_drewN ?_ _ | refine blk_drew ?_ | refine blk_alloc ?_ _ | refine obj_far ?_ GNE159.out _ | refine obj_far ?_ GNE161.out _ | refine obj_far ?_ GNE164.out _)); exact BKM.out) HS.out ((rd_T68 l1 x46_2).f0) KS.out KL.out rfl rfl rfl ?_; intro wm2 hsm2 hgr2; have n0_ := Aside0.mk (pw_below_grown (by repeat (first | (with_reducible first | exact HB.out | apply below_alloc | apply pw_below_drewN | apply below_drew1 | refine below_set ?_ GE159.out | refine below_set ?_ GE161.out | refine below_set ?_ GE164.out) | exact HB.out)) (some BM) (below_size (by repeat (first | (with_reducible first | exact HB.out | apply below_alloc | apply pw_below_drewN | apply below_drew1 | refine below_set ?_ GE159.out | refine below_set ?_ GE161.out | refine below_set ?_ GE164.out) | exact HB.out))) hgr2 (fun k_ hk_ => by cases hk_; exact HBM.out)); (try (have b_ := Aside0.mk (blk_grown (g := gb159) (o := _) (by (with_reducible repeat (first | refine blk_drewN ?_ _ | refine blk_drew ?_ | refine blk_alloc ?_ _ | refine blk_put (g := gb159) ?_ _ _ rfl | refine obj_far ?_ (NB159_161.out) _ | refine obj_far ?_ (NB159_164.out) _)); exact BK159.out) hgr2 (fun e_ => GNE159.out (Option.some.inj e_).symm)); clear BK159; have BK159 := b_; clear b_)); (try (have hzm159_0 : wm2.cell? ⟨gb159, 0, none⟩ = some (.int .i64 a0_0) := (blk_cell BK159.out 0).trans rfl)); (try (have hfm159_0 := blk_frozen BK159.out 0)); (try (have hzm159_1 : wm2.cell? ⟨gb159, 1, none⟩ = some (.int .i64 a0_1) := (blk_cell BK159.out 1).trans rfl)); (try (have hfm159_1 := blk_frozen BK159.out 1)); (try (have hzm159_2 : wm2.cell? ⟨gb159, 2, none⟩ = some (.int .i64 a0_2) := (blk_cell BK159.out 2).trans rfl)); (try (have hfm159_2 := blk_frozen BK159.out 2)); (try (have b_ := Aside0.mk (blk_grown (g := gb161) (o := _) (by (with_reducible repeat (first | refine blk_drewN ?_ _ | refine blk_drew ?_ | refine blk_alloc ?_ _ | refine blk_put (g := gb161) ?_ _ _ rfl | refine obj_far ?_ (NB161_159.out) _ | refine obj_far ?_ (NB161_164.out) _)); exact BK161.out) hgr2 (fun e_ => GNE161.out (Option.some.inj e_).symm)); clear BK161; have BK161 := b_; clear b_)); (try (have hzm161_0 : wm2.cell? ⟨gb161, 0, none⟩ = some (.string ((rd_T68 l1 x46_2).f0)) := (blk_cell BK161.out 0).trans rfl)); (try (have hfm161_0 := blk_frozen BK161.out 0)); (try (have hzm161_1 : wm2.cell? ⟨gb161, 1, none⟩ = some (.int .i64 ((rd_T68 l1 x46_2).f1)) := (blk_cell BK161.out 1).trans rfl)); (try (have hfm161_1 := blk_frozen BK161.out 1)); (try (have hzm161_2 : wm2.cell? ⟨gb161, 2, none⟩ = some ((.slice A160_2 ((rd_T68 l1 x46_2).f2).length c160_2)) := (blk_cell BK161.out 2).trans rfl)); (try (have hfm161_2 := blk_frozen BK161.out 2)); (try (have b_ := Aside0.mk (blk_grown (g := gb164) (o := _) (by (with_reducible repeat (first | refine blk_drewN ?_ _ | refine blk_drew ?_ | refine blk_alloc ?_ _ | refine blk_put (g := gb164) ?_ _ _ rfl | refine obj_far ?_ (NB164_159.out) _ | refine obj_far ?_ (NB164_161.out) _)); exact BK164.out) hgr2 (fun e_ => GNE164.out (Option.some.inj e_).symm)); clear BK164; have BK164 := b_; clear b_)); clear HB; have HB := n0_; clear n0_; clear BKM HS; obtain ⟨om, hom2, hos2⟩ := hsm2; have BKM := Aside0.mk hom2; have HS := Aside0.mk hos2; clear hom2 hos2 hgr2))
               go_meet
               case rel => exact ⟨_, (decide ((((rd_T68 l1 x46_2).f2).length : Int) > 8)), (by first | rfl | (simp; done) | (simp [*]; done)), H', ⟨by have := HJ2.out; have := HK2.out; first | omega | exact Nat.le_refl _⟩, ⟨by (with_reducible repeat (first | refine blk_drewN ?_ _ | refine blk_drew ?_ | refine blk_alloc ?_ _)); exact BK159.out⟩, ⟨by (with_reducible repeat (first | refine blk_drewN ?_ _ | refine blk_drew ?_ | refine blk_alloc ?_ _)); exact BK161.out⟩, ⟨⟨_, (by (with_reducible repeat (first | refine blk_drewN ?_ _ | refine blk_drew ?_ | refine blk_alloc ?_ _ | refine obj_far ?_ GNE159.out _ | refine obj_far ?_ GNE161.out _ | refine obj_far ?_ GNE164.out _)); exact BKM.out), HS.out⟩⟩, ⟨by repeat (first | (with_reducible first | exact HB.out | apply below_alloc | apply pw_below_drewN | apply below_drew1 | refine below_set ?_ GE159.out | refine below_set ?_ GE161.out) | exact HB.out)⟩⟩
          ·replace c26 := Bool.eq_false_iff.mpr c26
           subst c26
           have H1 : (impl_ShopOK.j2 k2 x5_2 l1 (l1.length : Int) x46_2 true a0_0 a0_1 a0_2 ((rd_T68 l1 x46_2).f0) ((rd_T68 l1 x46_2).f1) ((rd_T68 l1 x46_2).f2)) = some r := by rw [if_neg (show ¬ (false = true) by decide)] at H; exact H
           clear H
           have H := H1
           clear H1
           have H' := Aside0.mk H
           clear H
           have hnb51 := NB161_159.out
           have hnc51 := NB159_161.out
           have hcz52_0 : w22.cell? ⟨gb161, 0, none⟩ = some (.string (⟨#[]⟩ : ByteArray)) := (blk_cell BK161.out 0).trans rfl
           have hcz52_1 : w22.cell? ⟨gb161, 1, none⟩ = some (.int .i64 0) := (blk_cell BK161.out 1).trans rfl
           have hcz52_2 : w22.cell? ⟨gb161, 2, none⟩ = some (.slice none 0 0) := (blk_cell BK161.out 2).trans rfl
           have hfz52_0 := blk_frozen BK161.out 0
           have hfz52_1 := blk_frozen BK161.out 1
           have hfz52_2 := blk_frozen BK161.out 2
           go_wp2_with (first | ((with_reducible refine gate_callee (f := 37) rfl ?_); refine goesL_ (some 52) rfl rfl Tryd.func37 (by kernel_rfl) rfl #[.string ((rd_T68 l1 x46_2).f0)] rfl (by (try simp only [List.map_toArray, List.map_cons, List.map_nil]); first | done | rfl | (simp only [List.length_drop, List.length_take]; rfl)) ?_; (with_reducible refine (impl_NameOK.calls k2 ((rd_T68 l1 x46_2).f0) false _ A25.out (laid_on HT0.out (by repeat (first | (with_reducible first | exact HB.out | apply below_alloc | apply pw_below_drewN | apply below_drew1 | refine below_set ?_ GE159.out | refine below_set ?_ GE161.out) | exact HB.out)))).mono ?_); rintro e w53 ⟨rfl, hb⟩; refine ⟨_, rfl, ?_⟩; have n0_ := Aside0.mk (blk_below (g := gb159) (o := .cells #[.int .i64 a0_0, .int .i64 a0_1, .int .i64 a0_2] 38 (0, 0)) (by (with_reducible repeat (first | refine blk_drewN ?_ _ | refine blk_drew ?_ | refine blk_alloc ?_ _)); refine blk_far ?_ NB159_161.out _; (with_reducible repeat (first | refine blk_drewN ?_ _ | refine blk_drew ?_ | refine blk_alloc ?_ _)); refine blk_far ?_ NB159_161.out _; (with_reducible repeat (first | refine blk_drewN ?_ _ | refine blk_drew ?_ | refine blk_alloc ?_ _)); refine blk_far ?_ NB159_161.out _; (with_reducible repeat (first | refine blk_drewN ?_ _ | refine blk_drew ?_ | refine blk_alloc ?_ _)); exact BK159.out) hb); have n1_ := Aside0.mk (blk_below (g := gb161) (o := .cells #[.string ((rd_T68 l1 x46_2).f0), .int .i64 ((rd_T68 l1 x46_2).f1), .slice A160_2 ((rd_T68 l1 x46_2).f2).length c160_2] 68 (0, 0)) (by (with_reducible repeat (first | refine blk_drewN ?_ _ | refine blk_drew ?_ | refine blk_alloc ?_ _)); refine blk_put (cs := #[.string ((rd_T68 l1 x46_2).f0), .int .i64 ((rd_T68 l1 x46_2).f1), .slice none 0 0]) ?_ 2 _ rfl; (with_reducible repeat (first | refine blk_drewN ?_ _ | refine blk_drew ?_ | refine blk_alloc ?_ _)); refine blk_put (cs := #[.string ((rd_T68 l1 x46_2).f0), .int .i64 0, .slice none 0 0]) ?_ 1 _ rfl; (with_reducible repeat (first | refine blk_drewN ?_ _ | refine blk_drew ?_ | refine blk_alloc ?_ _)); refine blk_put (cs := #[.string (⟨#[]⟩ : ByteArray), .int .i64 0, .slice none 0 0]) ?_ 0 _ rfl; (with_reducible repeat (first | refine blk_drewN ?_ _ | refine blk_drew ?_ | refine blk_alloc ?_ _)); exact BK161.out) hb); have n2_ := Aside0.mk (below_step (by repeat (first | (with_reducible first | exact HB.out | apply below_alloc | apply pw_below_drewN | apply below_drew1 | refine below_set ?_ GE159.out | refine below_set ?_ GE161.out) | exact HB.out)) hb); clear BK159; clear BK161; clear HB; have BK159 := n0_; have BK161 := n1_; have HB := n2_; clear n0_ n1_ n2_; have m0_ := Aside0.mk (blk_below (g := BM) (o := om) (by (with_reducible repeat (first | refine blk_drewN ?_ _ | refine blk_drew ?_ | refine blk_alloc ?_ _ | refine obj_far ?_ GNE159.out _ | refine obj_far ?_ GNE161.out _ | refine obj_far ?_ GNE164.out _)); exact BKM.out) hb); clear BKM; have BKM := m0_; clear m0_; (try clear hb); (try clear hb2); (try clear hk); (try clear hi)) | ((with_reducible refine gate_ (Op.lookup 73 (.tmp 55) (.tmp 57) false) rfl ?_); (try (refine gate_guard (by rfl) ?_; dsimp only)); refine wpList_lookup_seen rfl rfl Tryd.underlying9 Tryd.underlying73 Tryd.underlying4 (by kernel_rfl) BM x5_2 om (by (with_reducible repeat (first | refine blk_drewN ?_ _ | refine blk_drew ?_ | refine blk_alloc ?_ _ | refine obj_far ?_ GNE159.out _ | refine obj_far ?_ GNE161.out _ | refine obj_far ?_ GNE164.out _)); exact BKM.out) HS.out ((rd_T68 l1 x46_2).f0) KS.out rfl rfl ?_; (try rw [c27b0])) | ((with_reducible refine gate_ (Op.mapUpdate 73 (.tmp 82) (.tmp 84) (.const (.bool true))) rfl ?_); refine wpList_update_seen rfl rfl Tryd.underlying9 Tryd.underlying73 Tryd.underlying4 BM x5_2 om (by (with_reducible repeat (first | refine blk_drewN ?_ _ | refine blk_drew ?_ | refine blk_alloc ?_ _ | refine obj_far ?_ GNE159.out _ | refine obj_far ?_ GNE161.out _ | refine obj_far ?_ GNE164.out _)); exact BKM.out) HS.out ((rd_T68 l1 x46_2).f0) KS.out KL.out rfl rfl rfl ?_; intro wm2 hsm2 hgr2; have n0_ := Aside0.mk (pw_below_grown (by repeat (first | (with_reducible first | exact HB.out | apply below_alloc | apply pw_below_drewN | apply below_drew1 | refine below_set ?_ GE159.out | refine below_set ?_ GE161.out | refine below_set ?_ GE164.out) | exact HB.out)) (some BM) (below_size (by repeat (first | (with_reducible first | exact HB.out | apply below_alloc | apply pw_below_drewN | apply below_drew1 | refine below_set ?_ GE159.out | refine below_set ?_ GE161.out | refine below_set ?_ GE164.out) | exact HB.out))) hgr2 (fun k_ hk_ => by cases hk_; exact HBM.out)); (try (have b_ := Aside0.mk (blk_grown (g := gb159) (o := _) (by (with_reducible repeat (first | refine blk_drewN ?_ _ | refine blk_drew ?_ | refine blk_alloc ?_ _ | refine blk_put (g := gb159) ?_ _ _ rfl | refine obj_far ?_ (NB159_161.out) _ | refine obj_far ?_ (NB159_164.out) _)); exact BK159.out) hgr2 (fun e_ => GNE159.out (Option.some.inj e_).symm)); clear BK159; have BK159 := b_; clear b_)); (try (have hzm159_0 : wm2.cell? ⟨gb159, 0, none⟩ = some (.int .i64 a0_0) := (blk_cell BK159.out 0).trans rfl)); (try (have hfm159_0 := blk_frozen BK159.out 0)); (try (have hzm159_1 : wm2.cell? ⟨gb159, 1, none⟩ = some (.int .i64 a0_1) := (blk_cell BK159.out 1).trans rfl)); (try (have hfm159_1 := blk_frozen BK159.out 1)); (try (have hzm159_2 : wm2.cell? ⟨gb159, 2, none⟩ = some (.int .i64 a0_2) := (blk_cell BK159.out 2).trans rfl)); (try (have hfm159_2 := blk_frozen BK159.out 2)); (try (have b_ := Aside0.mk (blk_grown (g := gb161) (o := _) (by (with_reducible repeat (first | refine blk_drewN ?_ _ | refine blk_drew ?_ | refine blk_alloc ?_ _ | refine blk_put (g := gb161) ?_ _ _ rfl | refine obj_far ?_ (NB161_159.out) _ | refine obj_far ?_ (NB161_164.out) _)); exact BK161.out) hgr2 (fun e_ => GNE161.out (Option.some.inj e_).symm)); clear BK161; have BK161 := b_; clear b_)); (try (have hzm161_0 : wm2.cell? ⟨gb161, 0, none⟩ = some (.string ((rd_T68 l1 x46_2).f0)) := (blk_cell BK161.out 0).trans rfl)); (try (have hfm161_0 := blk_frozen BK161.out 0)); (try (have hzm161_1 : wm2.cell? ⟨gb161, 1, none⟩ = some (.int .i64 ((rd_T68 l1 x46_2).f1)) := (blk_cell BK161.out 1).trans rfl)); (try (have hfm161_1 := blk_frozen BK161.out 1)); (try (have hzm161_2 : wm2.cell? ⟨gb161, 2, none⟩ = some ((.slice A160_2 ((rd_T68 l1 x46_2).f2).length c160_2)) := (blk_cell BK161.out 2).trans rfl)); (try (have hfm161_2 := blk_frozen BK161.out 2)); (try (have b_ := Aside0.mk (blk_grown (g := gb164) (o := _) (by (with_reducible repeat (first | refine blk_drewN ?_ _ | refine blk_drew ?_ | refine blk_alloc ?_ _ | refine blk_put (g := gb164) ?_ _ _ rfl | refine obj_far ?_ (NB164_159.out) _ | refine obj_far ?_ (NB164_161.out) _)); exact BK164.out) hgr2 (fun e_ => GNE164.out (Option.some.inj e_).symm)); clear BK164; have BK164 := b_; clear b_)); clear HB; have HB := n0_; clear n0_; clear BKM HS; obtain ⟨om, hom2, hos2⟩ := hsm2; have BKM := Aside0.mk hom2; have HS := Aside0.mk hos2; clear hom2 hos2 hgr2))
           go_meet
           case rel => exact ⟨_, (true), (by first | rfl | (simp; done) | (simp [*]; done)), H', ⟨by have := HJ2.out; have := HK2.out; first | omega | exact Nat.le_refl _⟩, ⟨by (with_reducible repeat (first | refine blk_drewN ?_ _ | refine blk_drew ?_ | refine blk_alloc ?_ _)); exact BK159.out⟩, ⟨by (with_reducible repeat (first | refine blk_drewN ?_ _ | refine blk_drew ?_ | refine blk_alloc ?_ _)); exact BK161.out⟩, ⟨⟨_, (by (with_reducible repeat (first | refine blk_drewN ?_ _ | refine blk_drew ?_ | refine blk_alloc ?_ _ | refine obj_far ?_ GNE159.out _ | refine obj_far ?_ GNE161.out _ | refine obj_far ?_ GNE164.out _)); exact BKM.out), HS.out⟩⟩, ⟨by repeat (first | (with_reducible first | exact HB.out | apply below_alloc | apply pw_below_drewN | apply below_drew1 | refine below_set ?_ GE159.out | refine below_set ?_ GE161.out) | exact HB.out)⟩⟩
         case rest =>
          clear HC21
          try clear c1
          try clear p1
          try clear q1
          try clear hx1
          try clear c2
          try clear p2
          try clear c3
          try clear c4
          try clear c5
          try clear c5b0
          try clear c5b1
          try clear c6
          try clear c6b0
          try clear c8
          try clear c8b0
          try clear c10
          try clear c10b0
          try clear c12
          try clear c12b0
          try clear c14
          try clear c14b0
          try clear c16
          try clear p16
          try clear q16
          try clear hx16
          try clear c17
          try clear c18
          try clear c18b0
          try clear c19
          try clear c19b0
          try clear c20
          try clear c20b0
          try clear c23
          try clear c26
          try clear c27
          try clear c27b0
          try clear c28
          try clear c32
          try clear c32b0
          try clear c33
          try clear c37
          try clear c37b0
          try clear c38
          try clear c42
          try clear c42b0
          try clear c42b1
          try clear c43
          try clear c47
          try clear c51
          try clear hcz11_0
          try clear hcz11_1
          try clear hcz11_2
          try clear hcz13_0
          try clear hcz13_1
          try clear hcz13_2
          try clear hcz15_0
          try clear hcz15_1
          try clear hcz15_2
          try clear hcz16_0
          try clear hcz16_1
          try clear hcz16_2
          try clear hcz24_0
          try clear hcz24_1
          try clear hcz24_2
          try clear hcz29_0
          try clear hcz29_1
          try clear hcz29_2
          try clear hcz31_0
          try clear hcz31_1
          try clear hcz31_2
          try clear hcz34_0
          try clear hcz34_1
          try clear hcz34_2
          try clear hcz36_0
          try clear hcz36_1
          try clear hcz36_2
          try clear hcz39_0
          try clear hcz39_1
          try clear hcz39_2
          try clear hcz41_0
          try clear hcz41_1
          try clear hcz41_2
          try clear hcz44_0
          try clear hcz44_1
          try clear hcz44_2
          try clear hcz46_0
          try clear hcz46_1
          try clear hcz46_2
          try clear hcz48_0
          try clear hcz48_1
          try clear hcz48_2
          try clear hcz50_0
          try clear hcz50_1
          try clear hcz50_2
          try clear hcz52_0
          try clear hcz52_1
          try clear hcz52_2
          try clear hcz7_0
          try clear hcz7_1
          try clear hcz7_2
          try clear hcz9_0
          try clear hcz9_1
          try clear hcz9_2
          try clear hfz11_0
          try clear hfz11_1
          try clear hfz11_2
          try clear hfz13_0
          try clear hfz13_1
          try clear hfz13_2
          try clear hfz15_0
          try clear hfz15_1
          try clear hfz15_2
          try clear hfz16_0
          try clear hfz16_1
          try clear hfz16_2
          try clear hfz24_0
          try clear hfz24_1
          try clear hfz24_2
          try clear hfz29_0
          try clear hfz29_1
          try clear hfz29_2
          try clear hfz31_0
          try clear hfz31_1
          try clear hfz31_2
          try clear hfz34_0
          try clear hfz34_1
          try clear hfz34_2
          try clear hfz36_0
          try clear hfz36_1
          try clear hfz36_2
          try clear hfz39_0
          try clear hfz39_1
          try clear hfz39_2
          try clear hfz41_0
          try clear hfz41_1
          try clear hfz41_2
          try clear hfz44_0
          try clear hfz44_1
          try clear hfz44_2
          try clear hfz46_0
          try clear hfz46_1
          try clear hfz46_2
          try clear hfz48_0
          try clear hfz48_1
          try clear hfz48_2
          try clear hfz50_0
          try clear hfz50_1
          try clear hfz50_2
          try clear hfz52_0
          try clear hfz52_1
          try clear hfz52_2
          try clear hfz7_0
          try clear hfz7_1
          try clear hfz7_2
          try clear hfz9_0
          try clear hfz9_1
          try clear hfz9_2
          try clear hx160_0
          try clear hx160_1
          try clear hx160_2
          try clear p160
          try clear p2
          try clear q160
          obtain ⟨kq, x81_20, rfl, HA, HJ20, BK159, BK161, HMI, HB⟩ := hcut
          obtain ⟨om, hom, hos⟩ := HMI.out
          have BKM := Aside0.mk hom
          have HS := Aside0.mk hos
          clear hom hos HMI
          cases kq with
          | zero => exact absurd HA.out (by simp [impl_ShopOK.j2])
          | succ kj20 =>
           have H := HA.out
           clear HA
           simp only [impl_ShopOK.j2] at H
           by_cases c54 : x81_20 = true
           ·subst c54
            have H1 : (some false) = some r := by rw [if_pos rfl] at H; exact H
            clear H
            have H := H1
            clear H1
            obtain rfl := Option.some.inj H
            go_wp2
            go_ret
            exact ⟨by first | rfl | (simp [errW_none, errW_some] <;> rfl) | (simp [*, errW_none, errW_some] <;> rfl), by repeat (first | (with_reducible first | exact HB.out | apply below_alloc | apply pw_below_drewN | apply below_drew1 | refine below_set ?_ GE159.out | refine below_set ?_ GE161.out) | exact HB.out)⟩
           ·replace c54 := Bool.eq_false_iff.mpr c54
            subst c54
            have H1 : (if ((rd_T68 l1 x46_2).f0).size ≤ 40 then (if x5_2.length < 1000 then (impl_ShopOK.l1 kj20 (x5_2 ++ [((rd_T68 l1 x46_2).f0)]) l1 (l1.length : Int) x46_2 ((rd_T68 l1 x46_2).f2) (((rd_T68 l1 x46_2).f2).length : Int) 0 a0_0 a0_1 a0_2) else (none)) else (none)) = some r := by rw [if_neg (show ¬ (false = true) by decide)] at H; exact H
            clear H
            have H := H1
            clear H1
            have cKs : ((rd_T68 l1 x46_2).f0).size ≤ 40 := Decidable.byContradiction fun hn_ => by rw [if_neg hn_] at H; exact absurd H (by simp)
            rw [if_pos cKs] at H
            have cKl : x5_2.length < 1000 := Decidable.byContradiction fun hn_ => by rw [if_neg hn_] at H; exact absurd H (by simp)
            rw [if_pos cKl] at H
            have KS := Aside0.mk cKs
            have KL := Aside0.mk cKl
            clear cKs cKl
            have H' := Aside0.mk H
            clear H
            have hnb55 := NB161_159.out
            have hnc55 := NB159_161.out
            have hcz56_0 : wc.cell? ⟨gb161, 0, none⟩ = some (.string ((rd_T68 l1 x46_2).f0)) := (blk_cell BK161.out 0).trans rfl
            have hcz56_1 : wc.cell? ⟨gb161, 1, none⟩ = some (.int .i64 ((rd_T68 l1 x46_2).f1)) := (blk_cell BK161.out 1).trans rfl
            have hcz56_2 : wc.cell? ⟨gb161, 2, none⟩ = some (.slice A160_2 ((rd_T68 l1 x46_2).f2).length c160_2) := (blk_cell BK161.out 2).trans rfl
            have hfz56_0 := blk_frozen BK161.out 0
            have hfz56_1 := blk_frozen BK161.out 1
            have hfz56_2 := blk_frozen BK161.out 2
            go_wp2_with (first | ((with_reducible refine gate_ (Op.lookup 73 (.tmp 55) (.tmp 57) false) rfl ?_); (try (refine gate_guard (by rfl) ?_; dsimp only)); refine wpList_lookup_seen rfl rfl Tryd.underlying9 Tryd.underlying73 Tryd.underlying4 (by kernel_rfl) BM x5_2 om (by (with_reducible repeat (first | refine blk_drewN ?_ _ | refine blk_drew ?_ | refine blk_alloc ?_ _ | refine obj_far ?_ GNE159.out _ | refine obj_far ?_ GNE161.out _ | refine obj_far ?_ GNE164.out _)); exact BKM.out) HS.out ((rd_T68 l1 x46_2).f0) KS.out rfl rfl ?_; (try rw [c27b0])) | ((with_reducible refine gate_ (Op.mapUpdate 73 (.tmp 82) (.tmp 84) (.const (.bool true))) rfl ?_); refine wpList_update_seen rfl rfl Tryd.underlying9 Tryd.underlying73 Tryd.underlying4 BM x5_2 om (by (with_reducible repeat (first | refine blk_drewN ?_ _ | refine blk_drew ?_ | refine blk_alloc ?_ _ | refine obj_far ?_ GNE159.out _ | refine obj_far ?_ GNE161.out _ | refine obj_far ?_ GNE164.out _)); exact BKM.out) HS.out ((rd_T68 l1 x46_2).f0) KS.out KL.out rfl rfl rfl ?_; intro wm2 hsm2 hgr2; have n0_ := Aside0.mk (pw_below_grown (by repeat (first | (with_reducible first | exact HB.out | apply below_alloc | apply pw_below_drewN | apply below_drew1 | refine below_set ?_ GE159.out | refine below_set ?_ GE161.out | refine below_set ?_ GE164.out) | exact HB.out)) (some BM) (below_size (by repeat (first | (with_reducible first | exact HB.out | apply below_alloc | apply pw_below_drewN | apply below_drew1 | refine below_set ?_ GE159.out | refine below_set ?_ GE161.out | refine below_set ?_ GE164.out) | exact HB.out))) hgr2 (fun k_ hk_ => by cases hk_; exact HBM.out)); (try (have b_ := Aside0.mk (blk_grown (g := gb159) (o := _) (by (with_reducible repeat (first | refine blk_drewN ?_ _ | refine blk_drew ?_ | refine blk_alloc ?_ _ | refine blk_put (g := gb159) ?_ _ _ rfl | refine obj_far ?_ (NB159_161.out) _ | refine obj_far ?_ (NB159_164.out) _)); exact BK159.out) hgr2 (fun e_ => GNE159.out (Option.some.inj e_).symm)); clear BK159; have BK159 := b_; clear b_)); (try (have hzm159_0 : wm2.cell? ⟨gb159, 0, none⟩ = some (.int .i64 a0_0) := (blk_cell BK159.out 0).trans rfl)); (try (have hfm159_0 := blk_frozen BK159.out 0)); (try (have hzm159_1 : wm2.cell? ⟨gb159, 1, none⟩ = some (.int .i64 a0_1) := (blk_cell BK159.out 1).trans rfl)); (try (have hfm159_1 := blk_frozen BK159.out 1)); (try (have hzm159_2 : wm2.cell? ⟨gb159, 2, none⟩ = some (.int .i64 a0_2) := (blk_cell BK159.out 2).trans rfl)); (try (have hfm159_2 := blk_frozen BK159.out 2)); (try (have b_ := Aside0.mk (blk_grown (g := gb161) (o := _) (by (with_reducible repeat (first | refine blk_drewN ?_ _ | refine blk_drew ?_ | refine blk_alloc ?_ _ | refine blk_put (g := gb161) ?_ _ _ rfl | refine obj_far ?_ (NB161_159.out) _ | refine obj_far ?_ (NB161_164.out) _)); exact BK161.out) hgr2 (fun e_ => GNE161.out (Option.some.inj e_).symm)); clear BK161; have BK161 := b_; clear b_)); (try (have hzm161_0 : wm2.cell? ⟨gb161, 0, none⟩ = some (.string ((rd_T68 l1 x46_2).f0)) := (blk_cell BK161.out 0).trans rfl)); (try (have hfm161_0 := blk_frozen BK161.out 0)); (try (have hzm161_1 : wm2.cell? ⟨gb161, 1, none⟩ = some (.int .i64 ((rd_T68 l1 x46_2).f1)) := (blk_cell BK161.out 1).trans rfl)); (try (have hfm161_1 := blk_frozen BK161.out 1)); (try (have hzm161_2 : wm2.cell? ⟨gb161, 2, none⟩ = some ((.slice A160_2 ((rd_T68 l1 x46_2).f2).length c160_2)) := (blk_cell BK161.out 2).trans rfl)); (try (have hfm161_2 := blk_frozen BK161.out 2)); (try (have b_ := Aside0.mk (blk_grown (g := gb164) (o := _) (by (with_reducible repeat (first | refine blk_drewN ?_ _ | refine blk_drew ?_ | refine blk_alloc ?_ _ | refine blk_put (g := gb164) ?_ _ _ rfl | refine obj_far ?_ (NB164_159.out) _ | refine obj_far ?_ (NB164_161.out) _)); exact BK164.out) hgr2 (fun e_ => GNE164.out (Option.some.inj e_).symm)); clear BK164; have BK164 := b_; clear b_)); clear HB; have HB := n0_; clear n0_; clear BKM HS; obtain ⟨om, hom2, hos2⟩ := hsm2; have BKM := Aside0.mk hom2; have HS := Aside0.mk hos2; clear hom2 hos2 hgr2))
            go_loopg [88] kj20 (fun kq v88 w' => ∃ (x88_4 : Int), v88 = .int .i64 x88_4 ∧ Aside0 (impl_ShopOK.l1 kq (x5_2 ++ [((rd_T68 l1 x46_2).f0)]) l1 (l1.length : Int) x46_2 ((rd_T68 l1 x46_2).f2) (((rd_T68 l1 x46_2).f2).length : Int) x88_4 a0_0 a0_1 a0_2 = some r) ∧ Aside0 (kq ≤ kj20) ∧ Aside0 (w'.heap[gb159]? = some (.cells #[.int .i64 a0_0, .int .i64 a0_1, .int .i64 a0_2] 38 (0, 0))) ∧ Aside0 (w'.heap[gb161]? = some (.cells #[.string ((rd_T68 l1 x46_2).f0), .int .i64 ((rd_T68 l1 x46_2).f1), (.slice A160_2 ((rd_T68 l1 x46_2).f2).length c160_2)] 68 (0, 0))) ∧ Aside0 (SeenAt Tryd.prog 9 4 BM (x5_2 ++ [((rd_T68 l1 x46_2).f0)]) w') ∧ Aside0 (Below w.heap.size w w'))
            case atStart => exact ⟨(0), (by first | rfl | (simp; done) | (simp [*]; done)), H', ⟨Nat.le_refl _⟩, ⟨by (with_reducible repeat (first | refine blk_drewN ?_ _ | refine blk_drew ?_ | refine blk_alloc ?_ _)); exact BK159.out⟩, ⟨by (with_reducible repeat (first | refine blk_drewN ?_ _ | refine blk_drew ?_ | refine blk_alloc ?_ _)); exact BK161.out⟩, ⟨⟨_, (by (with_reducible repeat (first | refine blk_drewN ?_ _ | refine blk_drew ?_ | refine blk_alloc ?_ _ | refine obj_far ?_ GNE159.out _ | refine obj_far ?_ GNE161.out _ | refine obj_far ?_ GNE164.out _)); exact BKM.out), HS.out⟩⟩, ⟨by repeat (first | (with_reducible first | exact HB.out | apply below_alloc | apply pw_below_drewN | apply below_drew1 | refine below_set ?_ GE159.out | refine below_set ?_ GE161.out) | exact HB.out)⟩⟩
            case round =>
             clear H'
             try clear c1
             try clear p1
             try clear q1
             try clear hx1
             try clear c2
             try clear p2
             try clear c3
             try clear c4
             try clear c5
             try clear c5b0
             try clear c5b1
             try clear c6
             try clear c6b0
             try clear p6
             try clear c8
             try clear c8b0
             try clear c10
             try clear c10b0
             try clear c12
             try clear c12b0
             try clear c14
             try clear c14b0
             try clear c16
             try clear p16
             try clear q16
             try clear hx16
             try clear c17
             try clear c18
             try clear c18b0
             try clear c19
             try clear c19b0
             try clear c20
             try clear c20b0
             try clear c23
             try clear c26
             try clear c27
             try clear c27b0
             try clear c28
             try clear c32
             try clear c32b0
             try clear c33
             try clear c37
             try clear c37b0
             try clear c38
             try clear c42
             try clear c42b0
             try clear c42b1
             try clear c43
             try clear c47
             try clear c51
             try clear c54
             try clear c55
             try clear hcz11_0
             try clear hcz11_1
             try clear hcz11_2
             try clear hcz13_0
             try clear hcz13_1
             try clear hcz13_2
             try clear hcz15_0
             try clear hcz15_1
             try clear hcz15_2
             try clear hcz16_0
             try clear hcz16_1
             try clear hcz16_2
             try clear hcz24_0
             try clear hcz24_1
             try clear hcz24_2
             try clear hcz29_0
             try clear hcz29_1
             try clear hcz29_2
             try clear hcz31_0
             try clear hcz31_1
             try clear hcz31_2
             try clear hcz34_0
             try clear hcz34_1
             try clear hcz34_2
             try clear hcz36_0
             try clear hcz36_1
             try clear hcz36_2
             try clear hcz39_0
             try clear hcz39_1
             try clear hcz39_2
             try clear hcz41_0
             try clear hcz41_1
             try clear hcz41_2
             try clear hcz44_0
             try clear hcz44_1
             try clear hcz44_2
             try clear hcz46_0
             try clear hcz46_1
             try clear hcz46_2
             try clear hcz48_0
             try clear hcz48_1
             try clear hcz48_2
             try clear hcz50_0
             try clear hcz50_1
             try clear hcz50_2
             try clear hcz52_0
             try clear hcz52_1
             try clear hcz52_2
             try clear hcz56_0
             try clear hcz56_1
             try clear hcz56_2
             try clear hcz7_0
             try clear hcz7_1
             try clear hcz7_2
             try clear hcz9_0
             try clear hcz9_1
             try clear hcz9_2
             try clear hfz11_0
             try clear hfz11_1
             try clear hfz11_2
             try clear hfz13_0
             try clear hfz13_1
             try clear hfz13_2
             try clear hfz15_0
             try clear hfz15_1
             try clear hfz15_2
             try clear hfz16_0
             try clear hfz16_1
             try clear hfz16_2
             try clear hfz24_0
             try clear hfz24_1
             try clear hfz24_2
             try clear hfz29_0
             try clear hfz29_1
             try clear hfz29_2
             try clear hfz31_0
             try clear hfz31_1
             try clear hfz31_2
             try clear hfz34_0
             try clear hfz34_1
             try clear hfz34_2
             try clear hfz36_0
             try clear hfz36_1
             try clear hfz36_2
             try clear hfz39_0
             try clear hfz39_1
             try clear hfz39_2
             try clear hfz41_0
             try clear hfz41_1
             try clear hfz41_2
             try clear hfz44_0
             try clear hfz44_1
             try clear hfz44_2
             try clear hfz46_0
             try clear hfz46_1
             try clear hfz46_2
             try clear hfz48_0
             try clear hfz48_1
             try clear hfz48_2
             try clear hfz50_0
             try clear hfz50_1
             try clear hfz50_2
             try clear hfz52_0
             try clear hfz52_1
             try clear hfz52_2
             try clear hfz56_0
             try clear hfz56_1
             try clear hfz56_2
             try clear hfz7_0
             try clear hfz7_1
             try clear hfz7_2
             try clear hfz9_0
             try clear hfz9_1
             try clear hfz9_2
             try clear hx160_0
             try clear hx160_1
             try clear hx160_2
             try clear p1
             try clear p16
             try clear p160
             try clear p2
             try clear q1
             try clear q16
             try clear q160
             obtain ⟨x88_4, rfl, HA, HK4, BK159, BK161, HMI, HB⟩ := hrel
             obtain ⟨om, hom, hos⟩ := HMI.out
             have BKM := Aside0.mk hom
             have HS := Aside0.mk hos
             clear hom hos HMI
             cases gk with
             | zero => exact absurd HA.out (by simp [impl_ShopOK.l1])
             | succ k4 =>
              have H := HA.out
              clear HA
              simp only [impl_ShopOK.l1] at H
              by_cases c57 : x88_4 < (((rd_T68 l1 x46_2).f2).length : Int)
              ·rw [if_pos c57] at H
               have c57b0 : decide (x88_4 < (((rd_T68 l1 x46_2).f2).length : Int)) = true := decide_eq_true c57
               clear c57
               by_cases c58 : 0 ≤ x88_4
               ·rw [if_pos c58] at H
                have c58b0 : decide (0 ≤ x88_4) = true := decide_eq_true c58
                clear c58
                by_cases c59 : x88_4 < (((rd_T68 l1 x46_2).f2).length : Int)
                ·rw [if_pos c59] at H
                 have c59b0 : decide (x88_4 < (((rd_T68 l1 x46_2).f2).length : Int)) = true := decide_eq_true c59
                 clear c59
                 by_cases c60 : ((rd_T71 ((rd_T68 l1 x46_2).f2) x88_4).f0) < 0
                 ·rw [if_pos c60] at H
                  have c60b0 : decide (((rd_T71 ((rd_T68 l1 x46_2).f2) x88_4).f0) < 0) = true := decide_eq_true c60
                  clear c60
                  obtain rfl := Option.some.inj H
                  have p163 : 0 ≤ (x88_4 : Int) := of_decide_eq_true (by first | (with_reducible assumption) | assumption)
                  have q163 : x88_4 < (((rd_T68 l1 x46_2).f2).length : Int) := of_decide_eq_true (by first | (with_reducible assumption) | assumption)
                  obtain ⟨ad163, e163, hx163_0, hx163_1, hx163_2, hx163_3⟩ := at_T71 HR160_2.out x88_4 p163 q163
                  cases e163
                  replace hx163_0 := (HB.out.cell (World.block_lt_of_cell? w _ hx163_0)).trans hx163_0
                  replace hx163_1 := (HB.out.cell (World.block_lt_of_cell? w _ hx163_1)).trans hx163_1
                  replace hx163_2 := (HB.out.cell (World.block_lt_of_cell? w _ hx163_2)).trans hx163_2
                  replace hx163_3 := (HB.out.cell (World.block_lt_of_cell? w _ hx163_3)).trans hx163_3
                  replace p163 := eq_true p163
                  replace q163 := eq_true q163
                  go_wp2_with (first | ((with_reducible refine gate_dst (N := 9) rfl ?_); (try (refine gate_guard (by rfl) ?_; dsimp only)); refine box_event ?hg (N := 9) ?hd (cs := #[.int .i64 0, .int .i64 0, .int .i64 0, .int .i64 0]) (t := 71) ?hr ?_; (case hd => rfl); (case hg => rfl); (case hr => first | (go_simp; done) | (go_simp; rfl)); intro gb164 hg w61 hbox hb; have n0_ := Aside0.mk (blk_below (g := gb159) (o := .cells #[.int .i64 a0_0, .int .i64 a0_1, .int .i64 a0_2] 38 (0, 0)) (by (with_reducible repeat (first | refine blk_drewN ?_ _ | refine blk_drew ?_ | refine blk_alloc ?_ _)); exact BK159.out) hb); have n1_ := Aside0.mk (blk_below (g := gb161) (o := .cells #[.string ((rd_T68 l1 x46_2).f0), .int .i64 ((rd_T68 l1 x46_2).f1), .slice (some ad163) ((rd_T68 l1 x46_2).f2).length c160_2] 68 (0, 0)) (by (with_reducible repeat (first | refine blk_drewN ?_ _ | refine blk_drew ?_ | refine blk_alloc ?_ _)); exact BK161.out) hb); have n2_ := Aside0.mk (below_step (by repeat (first | (with_reducible first | exact HB.out | apply below_alloc | apply pw_below_drewN | apply below_drew1 | refine below_set ?_ GE159.out | refine below_set ?_ GE161.out) | exact HB.out)) hb); have n3_ := Aside0.mk (hbox); have n4_ := Aside0.mk ((by rw [hg]; exact (below_size (by repeat (first | (with_reducible first | exact HB.out | apply below_alloc | apply pw_below_drewN | apply below_drew1 | refine below_set ?_ GE159.out | refine below_set ?_ GE161.out) | exact HB.out))) : w.heap.size ≤ gb164)); have n5_ := Aside0.mk ((by rw [hg]; exact (below_size (by repeat (first | (with_reducible first | exact HB.out | apply below_alloc | apply pw_below_drewN | apply below_drew1 | refine below_set ?_ GE159.out | refine below_set ?_ GE161.out) | exact HB.out))) : w.heap.size ≤ gb164)); have n6_ := Aside0.mk ((by rw [hg]; exact Nat.ne_of_lt (blk_lt (g := gb159) (o := .cells #[.int .i64 a0_0, .int .i64 a0_1, .int .i64 a0_2] 38 (0, 0)) (by (with_reducible repeat (first | refine blk_drewN ?_ _ | refine blk_drew ?_ | refine blk_alloc ?_ _)); exact BK159.out)) : gb159 ≠ gb164)); have n7_ := Aside0.mk ((by rw [hg]; exact Nat.ne_of_gt (blk_lt (g := gb159) (o := .cells #[.int .i64 a0_0, .int .i64 a0_1, .int .i64 a0_2] 38 (0, 0)) (by (with_reducible repeat (first | refine blk_drewN ?_ _ | refine blk_drew ?_ | refine blk_alloc ?_ _)); exact BK159.out)) : gb164 ≠ gb159)); have n8_ := Aside0.mk ((by rw [hg]; exact Nat.ne_of_lt (blk_lt (g := gb161) (o := .cells #[.string ((rd_T68 l1 x46_2).f0), .int .i64 ((rd_T68 l1 x46_2).f1), .slice (some ad163) ((rd_T68 l1 x46_2).f2).length c160_2] 68 (0, 0)) (by (with_reducible repeat (first | refine blk_drewN ?_ _ | refine blk_drew ?_ | refine blk_alloc ?_ _)); exact BK161.out)) : gb161 ≠ gb164)); have n9_ := Aside0.mk ((by rw [hg]; exact Nat.ne_of_gt (blk_lt (g := gb161) (o := .cells #[.string ((rd_T68 l1 x46_2).f0), .int .i64 ((rd_T68 l1 x46_2).f1), .slice (some ad163) ((rd_T68 l1 x46_2).f2).length c160_2] 68 (0, 0)) (by (with_reducible repeat (first | refine blk_drewN ?_ _ | refine blk_drew ?_ | refine blk_alloc ?_ _)); exact BK161.out)) : gb164 ≠ gb161)); clear BK159; clear BK161; clear HB; have BK159 := n0_; have BK161 := n1_; have HB := n2_; have BK164 := n3_; have GW164 := n4_; have GE164 := n5_; have NB159_164 := n6_; have NB164_159 := n7_; have NB161_164 := n8_; have NB164_161 := n9_; clear n0_ n1_ n2_ n3_ n4_ n5_ n6_ n7_ n8_ n9_; have m0_ := Aside0.mk (blk_below (g := BM) (o := om) (by (with_reducible repeat (first | refine blk_drewN ?_ _ | refine blk_drew ?_ | refine blk_alloc ?_ _ | refine obj_far ?_ GNE159.out _ | refine obj_far ?_ GNE161.out _ | refine obj_far ?_ GNE164.out _)); exact BKM.out) hb); have m1_ := Aside0.mk (show BM ≠ gb164 from Nat.ne_of_lt (by rw [hg]; exact blk_lt (o := om) (by (with_reducible repeat (first | refine blk_drewN ?_ _ | refine blk_drew ?_ | refine blk_alloc ?_ _ | refine obj_far ?_ GNE159.out _ | refine obj_far ?_ GNE161.out _ | refine obj_far ?_ GNE164.out _)); exact BKM.out))); clear BKM; have BKM := m0_; have GNE164 := m1_; clear m0_ m1_; clear hb hbox hg; have hnb62 := NB164_159.out; have hnc62 := NB159_164.out; have hnb63 := NB164_161.out; have hnc63 := NB161_164.out; have hcz64_0 : w61.cell? ⟨gb164, 0, none⟩ = some (.int .i64 0) := (blk_cell BK164.out 0).trans rfl; have hcz64_1 : w61.cell? ⟨gb164, 1, none⟩ = some (.int .i64 0) := (blk_cell BK164.out 1).trans rfl; have hcz64_2 : w61.cell? ⟨gb164, 2, none⟩ = some (.int .i64 0) := (blk_cell BK164.out 2).trans rfl; have hcz64_3 : w61.cell? ⟨gb164, 3, none⟩ = some (.int .i64 0) := (blk_cell BK164.out 3).trans rfl; have hfz64_0 := blk_frozen BK164.out 0; have hfz64_1 := blk_frozen BK164.out 1; have hfz64_2 := blk_frozen BK164.out 2; have hfz64_3 := blk_frozen BK164.out 3) | ((with_reducible refine gate_ (Op.lookup 73 (.tmp 55) (.tmp 57) false) rfl ?_); (try (refine gate_guard (by rfl) ?_; dsimp only)); refine wpList_lookup_seen rfl rfl Tryd.underlying9 Tryd.underlying73 Tryd.underlying4 (by kernel_rfl) BM x5_2 om (by (with_reducible repeat (first | refine blk_drewN ?_ _ | refine blk_drew ?_ | refine blk_alloc ?_ _ | refine obj_far ?_ GNE159.out _ | refine obj_far ?_ GNE161.out _ | refine obj_far ?_ GNE164.out _)); exact BKM.out) HS.out ((rd_T68 l1 x46_2).f0) KS.out rfl rfl ?_; (try rw [c27b0])) | ((with_reducible refine gate_ (Op.mapUpdate 73 (.tmp 82) (.tmp 84) (.const (.bool true))) rfl ?_); refine wpList_update_seen rfl rfl Tryd.underlying9 Tryd.underlying73 Tryd.underlying4 BM x5_2 om (by (with_reducible repeat (first | refine blk_drewN ?_ _ | refine blk_drew ?_ | refine blk_alloc ?_ _ | refine obj_far ?_ GNE159.out _ | refine obj_far ?_ GNE161.out _ | refine obj_far ?_ GNE164.out _)); exact BKM.out) HS.out ((rd_T68 l1 x46_2).f0) KS.out KL.out rfl rfl rfl ?_; intro wm2 hsm2 hgr2; have n0_ := Aside0.mk (pw_below_grown (by repeat (first | (with_reducible first | exact HB.out | apply below_alloc | apply pw_below_drewN | apply below_drew1 | refine below_set ?_ GE159.out | refine below_set ?_ GE161.out | refine below_set ?_ GE164.out) | exact HB.out)) (some BM) (below_size (by repeat (first | (with_reducible first | exact HB.out | apply below_alloc | apply pw_below_drewN | apply below_drew1 | refine below_set ?_ GE159.out | refine below_set ?_ GE161.out | refine below_set ?_ GE164.out) | exact HB.out))) hgr2 (fun k_ hk_ => by cases hk_; exact HBM.out)); (try (have b_ := Aside0.mk (blk_grown (g := gb159) (o := _) (by (with_reducible repeat (first | refine blk_drewN ?_ _ | refine blk_drew ?_ | refine blk_alloc ?_ _ | refine blk_put (g := gb159) ?_ _ _ rfl | refine obj_far ?_ (NB159_161.out) _ | refine obj_far ?_ (NB159_164.out) _)); exact BK159.out) hgr2 (fun e_ => GNE159.out (Option.some.inj e_).symm)); clear BK159; have BK159 := b_; clear b_)); (try (have hzm159_0 : wm2.cell? ⟨gb159, 0, none⟩ = some (.int .i64 a0_0) := (blk_cell BK159.out 0).trans rfl)); (try (have hfm159_0 := blk_frozen BK159.out 0)); (try (have hzm159_1 : wm2.cell? ⟨gb159, 1, none⟩ = some (.int .i64 a0_1) := (blk_cell BK159.out 1).trans rfl)); (try (have hfm159_1 := blk_frozen BK159.out 1)); (try (have hzm159_2 : wm2.cell? ⟨gb159, 2, none⟩ = some (.int .i64 a0_2) := (blk_cell BK159.out 2).trans rfl)); (try (have hfm159_2 := blk_frozen BK159.out 2)); (try (have b_ := Aside0.mk (blk_grown (g := gb161) (o := _) (by (with_reducible repeat (first | refine blk_drewN ?_ _ | refine blk_drew ?_ | refine blk_alloc ?_ _ | refine blk_put (g := gb161) ?_ _ _ rfl | refine obj_far ?_ (NB161_159.out) _ | refine obj_far ?_ (NB161_164.out) _)); exact BK161.out) hgr2 (fun e_ => GNE161.out (Option.some.inj e_).symm)); clear BK161; have BK161 := b_; clear b_)); (try (have hzm161_0 : wm2.cell? ⟨gb161, 0, none⟩ = some (.string ((rd_T68 l1 x46_2).f0)) := (blk_cell BK161.out 0).trans rfl)); (try (have hfm161_0 := blk_frozen BK161.out 0)); (try (have hzm161_1 : wm2.cell? ⟨gb161, 1, none⟩ = some (.int .i64 ((rd_T68 l1 x46_2).f1)) := (blk_cell BK161.out 1).trans rfl)); (try (have hfm161_1 := blk_frozen BK161.out 1)); (try (have hzm161_2 : wm2.cell? ⟨gb161, 2, none⟩ = some ((.slice A160_2 ((rd_T68 l1 x46_2).f2).length c160_2)) := (blk_cell BK161.out 2).trans rfl)); (try (have hfm161_2 := blk_frozen BK161.out 2)); (try (have b_ := Aside0.mk (blk_grown (g := gb164) (o := _) (by (with_reducible repeat (first | refine blk_drewN ?_ _ | refine blk_drew ?_ | refine blk_alloc ?_ _ | refine blk_put (g := gb164) ?_ _ _ rfl | refine obj_far ?_ (NB164_159.out) _ | refine obj_far ?_ (NB164_161.out) _)); exact BK164.out) hgr2 (fun e_ => GNE164.out (Option.some.inj e_).symm)); clear BK164; have BK164 := b_; clear b_)); clear HB; have HB := n0_; clear n0_; clear BKM HS; obtain ⟨om, hom2, hos2⟩ := hsm2; have BKM := Aside0.mk hom2; have HS := Aside0.mk hos2; clear hom2 hos2 hgr2))
                  go_ret
                  exact ⟨by first | rfl | (simp [errW_none, errW_some] <;> rfl) | (simp [*, errW_none, errW_some] <;> rfl), by repeat (first | (with_reducible first | exact HB.out | apply below_alloc | apply pw_below_drewN | apply below_drew1 | refine below_set ?_ GE159.out | refine below_set ?_ GE161.out | refine below_set ?_ GE164.out) | exact HB.out)⟩
                 ·rw [if_neg c60] at H
                  have c60b0 : decide (((rd_T71 ((rd_T68 l1 x46_2).f2) x88_4).f0) < 0) = false := decide_eq_false c60
                  clear c60
                  by_cases c65 : ((rd_T71 ((rd_T68 l1 x46_2).f2) x88_4).f0) ≥ a0_0
                  ·rw [if_pos c65] at H
                   have c65b0 : decide (a0_0 ≤ ((rd_T71 ((rd_T68 l1 x46_2).f2) x88_4).f0)) = true := decide_eq_true c65
                   clear c65
                   obtain rfl := Option.some.inj H
                   have p163 : 0 ≤ (x88_4 : Int) := of_decide_eq_true (by first | (with_reducible assumption) | assumption)
                   have q163 : x88_4 < (((rd_T68 l1 x46_2).f2).length : Int) := of_decide_eq_true (by first | (with_reducible assumption) | assumption)
                   obtain ⟨ad163, e163, hx163_0, hx163_1, hx163_2, hx163_3⟩ := at_T71 HR160_2.out x88_4 p163 q163
                   cases e163
                   replace hx163_0 := (HB.out.cell (World.block_lt_of_cell? w _ hx163_0)).trans hx163_0
                   replace hx163_1 := (HB.out.cell (World.block_lt_of_cell? w _ hx163_1)).trans hx163_1
                   replace hx163_2 := (HB.out.cell (World.block_lt_of_cell? w _ hx163_2)).trans hx163_2
                   replace hx163_3 := (HB.out.cell (World.block_lt_of_cell? w _ hx163_3)).trans hx163_3
                   replace p163 := eq_true p163
                   replace q163 := eq_true q163
                   go_wp2_with (first | ((with_reducible refine gate_dst (N := 9) rfl ?_); (try (refine gate_guard (by rfl) ?_; dsimp only)); refine box_event ?hg (N := 9) ?hd (cs := #[.int .i64 0, .int .i64 0, .int .i64 0, .int .i64 0]) (t := 71) ?hr ?_; (case hd => rfl); (case hg => rfl); (case hr => first | (go_simp; done) | (go_simp; rfl)); intro gb164 hg w66 hbox hb; have n0_ := Aside0.mk (blk_below (g := gb159) (o := .cells #[.int .i64 a0_0, .int .i64 a0_1, .int .i64 a0_2] 38 (0, 0)) (by (with_reducible repeat (first | refine blk_drewN ?_ _ | refine blk_drew ?_ | refine blk_alloc ?_ _)); exact BK159.out) hb); have n1_ := Aside0.mk (blk_below (g := gb161) (o := .cells #[.string ((rd_T68 l1 x46_2).f0), .int .i64 ((rd_T68 l1 x46_2).f1), .slice (some ad163) ((rd_T68 l1 x46_2).f2).length c160_2] 68 (0, 0)) (by (with_reducible repeat (first | refine blk_drewN ?_ _ | refine blk_drew ?_ | refine blk_alloc ?_ _)); exact BK161.out) hb); have n2_ := Aside0.mk (below_step (by repeat (first | (with_reducible first | exact HB.out | apply below_alloc | apply pw_below_drewN | apply below_drew1 | refine below_set ?_ GE159.out | refine below_set ?_ GE161.out) | exact HB.out)) hb); have n3_ := Aside0.mk (hbox); have n4_ := Aside0.mk ((by rw [hg]; exact (below_size (by repeat (first | (with_reducible first | exact HB.out | apply below_alloc | apply pw_below_drewN | apply below_drew1 | refine below_set ?_ GE159.out | refine below_set ?_ GE161.out) | exact HB.out))) : w.heap.size ≤ gb164)); have n5_ := Aside0.mk ((by rw [hg]; exact (below_size (by repeat (first | (with_reducible first | exact HB.out | apply below_alloc | apply pw_below_drewN | apply below_drew1 | refine below_set ?_ GE159.out | refine below_set ?_ GE161.out) | exact HB.out))) : w.heap.size ≤ gb164)); have n6_ := Aside0.mk ((by rw [hg]; exact Nat.ne_of_lt (blk_lt (g := gb159) (o := .cells #[.int .i64 a0_0, .int .i64 a0_1, .int .i64 a0_2] 38 (0, 0)) (by (with_reducible repeat (first | refine blk_drewN ?_ _ | refine blk_drew ?_ | refine blk_alloc ?_ _)); exact BK159.out)) : gb159 ≠ gb164)); have n7_ := Aside0.mk ((by rw [hg]; exact Nat.ne_of_gt (blk_lt (g := gb159) (o := .cells #[.int .i64 a0_0, .int .i64 a0_1, .int .i64 a0_2] 38 (0, 0)) (by (with_reducible repeat (first | refine blk_drewN ?_ _ | refine blk_drew ?_ | refine blk_alloc ?_ _)); exact BK159.out)) : gb164 ≠ gb159)); have n8_ := Aside0.mk ((by rw [hg]; exact Nat.ne_of_lt (blk_lt (g := gb161) (o := .cells #[.string ((rd_T68 l1 x46_2).f0), .int .i64 ((rd_T68 l1 x46_2).f1), .slice (some ad163) ((rd_T68 l1 x46_2).f2).length c160_2] 68 (0, 0)) (by (with_reducible repeat (first | refine blk_drewN ?_ _ | refine blk_drew ?_ | refine blk_alloc ?_ _)); exact BK161.out)) : gb161 ≠ gb164)); have n9_ := Aside0.mk ((by rw [hg]; exact Nat.ne_of_gt (blk_lt (g := gb161) (o := .cells #[.string ((rd_T68 l1 x46_2).f0), .int .i64 ((rd_T68 l1 x46_2).f1), .slice (some ad163) ((rd_T68 l1 x46_2).f2).length c160_2] 68 (0, 0)) (by (with_reducible repeat (first | refine blk_drewN ?_ _ | refine blk_drew ?_ | refine blk_alloc ?_ _)); exact BK161.out)) : gb164 ≠ gb161)); clear BK159; clear BK161; clear HB; have BK159 := n0_; have BK161 := n1_; have HB := n2_; have BK164 := n3_; have GW164 := n4_; have GE164 := n5_; have NB159_164 := n6_; have NB164_159 := n7_; have NB161_164 := n8_; have NB164_161 := n9_; clear n0_ n1_ n2_ n3_ n4_ n5_ n6_ n7_ n8_ n9_; have m0_ := Aside0.mk (blk_below (g := BM) (o := om) (by (with_reducible repeat (first | refine blk_drewN ?_ _ | refine blk_drew ?_ | refine blk_alloc ?_ _ | refine obj_far ?_ GNE159.out _ | refine obj_far ?_ GNE161.out _ | refine obj_far ?_ GNE164.out _)); exact BKM.out) hb); have m1_ := Aside0.mk (show BM ≠ gb164 from Nat.ne_of_lt (by rw [hg]; exact blk_lt (o := om) (by (with_reducible repeat (first | refine blk_drewN ?_ _ | refine blk_drew ?_ | refine blk_alloc ?_ _ | refine obj_far ?_ GNE159.out _ | refine obj_far ?_ GNE161.out _ | refine obj_far ?_ GNE164.out _)); exact BKM.out))); clear BKM; have BKM := m0_; have GNE164 := m1_; clear m0_ m1_; clear hb hbox hg; have hnb67 := NB164_159.out; have hnc67 := NB159_164.out; have hnb68 := NB164_161.out; have hnc68 := NB161_164.out; have hcz69_0 : w66.cell? ⟨gb164, 0, none⟩ = some (.int .i64 0) := (blk_cell BK164.out 0).trans rfl; have hcz69_1 : w66.cell? ⟨gb164, 1, none⟩ = some (.int .i64 0) := (blk_cell BK164.out 1).trans rfl; have hcz69_2 : w66.cell? ⟨gb164, 2, none⟩ = some (.int .i64 0) := (blk_cell BK164.out 2).trans rfl; have hcz69_3 : w66.cell? ⟨gb164, 3, none⟩ = some (.int .i64 0) := (blk_cell BK164.out 3).trans rfl; have hfz69_0 := blk_frozen BK164.out 0; have hfz69_1 := blk_frozen BK164.out 1; have hfz69_2 := blk_frozen BK164.out 2; have hfz69_3 := blk_frozen BK164.out 3; have hnb70 := NB159_161.out; have hnc70 := NB161_159.out; have hcz71_0 : w66.cell? ⟨gb159, 0, none⟩ = some (.int .i64 a0_0) := (blk_cell BK159.out 0).trans rfl; have hcz71_1 : w66.cell? ⟨gb159, 1, none⟩ = some (.int .i64 a0_1) := (blk_cell BK159.out 1).trans rfl; have hcz71_2 : w66.cell? ⟨gb159, 2, none⟩ = some (.int .i64 a0_2) := (blk_cell BK159.out 2).trans rfl; have hfz71_0 := blk_frozen BK159.out 0; have hfz71_1 := blk_frozen BK159.out 1; have hfz71_2 := blk_frozen BK159.out 2) | ((with_reducible refine gate_ (Op.lookup 73 (.tmp 55) (.tmp 57) false) rfl ?_); (try (refine gate_guard (by rfl) ?_; dsimp only)); refine wpList_lookup_seen rfl rfl Tryd.underlying9 Tryd.underlying73 Tryd.underlying4 (by kernel_rfl) BM x5_2 om (by (with_reducible repeat (first | refine blk_drewN ?_ _ | refine blk_drew ?_ | refine blk_alloc ?_ _ | refine obj_far ?_ GNE159.out _ | refine obj_far ?_ GNE161.out _ | refine obj_far ?_ GNE164.out _)); exact BKM.out) HS.out ((rd_T68 l1 x46_2).f0) KS.out rfl rfl ?_; (try rw [c27b0])) | ((with_reducible refine gate_ (Op.mapUpdate 73 (.tmp 82) (.tmp 84) (.const (.bool true))) rfl ?_); refine wpList_update_seen rfl rfl Tryd.underlying9 Tryd.underlying73 Tryd.underlying4 BM x5_2 om (by (with_reducible repeat (first | refine blk_drewN ?_ _ | refine blk_drew ?_ | refine blk_alloc ?_ _ | refine obj_far ?_ GNE159.out _ | refine obj_far ?_ GNE161.out _ | refine obj_far ?_ GNE164.out _)); exact BKM.out) HS.out ((rd_T68 l1 x46_2).f0) KS.out KL.out rfl rfl rfl ?_; intro wm2 hsm2 hgr2; have n0_ := Aside0.mk (pw_below_grown (by repeat (first | (with_reducible first | exact HB.out | apply below_alloc | apply pw_below_drewN | apply below_drew1 | refine below_set ?_ GE159.out | refine below_set ?_ GE161.out | refine below_set ?_ GE164.out) | exact HB.out)) (some BM) (below_size (by repeat (first | (with_reducible first | exact HB.out | apply below_alloc | apply pw_below_drewN | apply below_drew1 | refine below_set ?_ GE159.out | refine below_set ?_ GE161.out | refine below_set ?_ GE164.out) | exact HB.out))) hgr2 (fun k_ hk_ => by cases hk_; exact HBM.out)); (try (have b_ := Aside0.mk (blk_grown (g := gb159) (o := _) (by (with_reducible repeat (first | refine blk_drewN ?_ _ | refine blk_drew ?_ | refine blk_alloc ?_ _ | refine blk_put (g := gb159) ?_ _ _ rfl | refine obj_far ?_ (NB159_161.out) _ | refine obj_far ?_ (NB159_164.out) _)); exact BK159.out) hgr2 (fun e_ => GNE159.out (Option.some.inj e_).symm)); clear BK159; have BK159 := b_; clear b_)); (try (have hzm159_0 : wm2.cell? ⟨gb159, 0, none⟩ = some (.int .i64 a0_0) := (blk_cell BK159.out 0).trans rfl)); (try (have hfm159_0 := blk_frozen BK159.out 0)); (try (have hzm159_1 : wm2.cell? ⟨gb159, 1, none⟩ = some (.int .i64 a0_1) := (blk_cell BK159.out 1).trans rfl)); (try (have hfm159_1 := blk_frozen BK159.out 1)); (try (have hzm159_2 : wm2.cell? ⟨gb159, 2, none⟩ = some (.int .i64 a0_2) := (blk_cell BK159.out 2).trans rfl)); (try (have hfm159_2 := blk_frozen BK159.out 2)); (try (have b_ := Aside0.mk (blk_grown (g := gb161) (o := _) (by (with_reducible repeat (first | refine blk_drewN ?_ _ | refine blk_drew ?_ | refine blk_alloc ?_ _ | refine blk_put (g := gb161) ?_ _ _ rfl | refine obj_far ?_ (NB161_159.out) _ | refine obj_far ?_ (NB161_164.out) _)); exact BK161.out) hgr2 (fun e_ => GNE161.out (Option.some.inj e_).symm)); clear BK161; have BK161 := b_; clear b_)); (try (have hzm161_0 : wm2.cell? ⟨gb161, 0, none⟩ = some (.string ((rd_T68 l1 x46_2).f0)) := (blk_cell BK161.out 0).trans rfl)); (try (have hfm161_0 := blk_frozen BK161.out 0)); (try (have hzm161_1 : wm2.cell? ⟨gb161, 1, none⟩ = some (.int .i64 ((rd_T68 l1 x46_2).f1)) := (blk_cell BK161.out 1).trans rfl)); (try (have hfm161_1 := blk_frozen BK161.out 1)); (try (have hzm161_2 : wm2.cell? ⟨gb161, 2, none⟩ = some ((.slice A160_2 ((rd_T68 l1 x46_2).f2).length c160_2)) := (blk_cell BK161.out 2).trans rfl)); (try (have hfm161_2 := blk_frozen BK161.out 2)); (try (have b_ := Aside0.mk (blk_grown (g := gb164) (o := _) (by (with_reducible repeat (first | refine blk_drewN ?_ _ | refine blk_drew ?_ | refine blk_alloc ?_ _ | refine blk_put (g := gb164) ?_ _ _ rfl | refine obj_far ?_ (NB164_159.out) _ | refine obj_far ?_ (NB164_161.out) _)); exact BK164.out) hgr2 (fun e_ => GNE164.out (Option.some.inj e_).symm)); clear BK164; have BK164 := b_; clear b_)); clear HB; have HB := n0_; clear n0_; clear BKM HS; obtain ⟨om, hom2, hos2⟩ := hsm2; have BKM := Aside0.mk hom2; have HS := Aside0.mk hos2; clear hom2 hos2 hgr2))
                   go_ret
                   exact ⟨by first | rfl | (simp [errW_none, errW_some] <;> rfl) | (simp [*, errW_none, errW_some] <;> rfl), by repeat (first | (with_reducible first | exact HB.out | apply below_alloc | apply pw_below_drewN | apply below_drew1 | refine below_set ?_ GE159.out | refine below_set ?_ GE161.out | refine below_set ?_ GE164.out) | exact HB.out)⟩
                  ·rw [if_neg c65] at H
                   have c65b0 : decide (a0_0 ≤ ((rd_T71 ((rd_T68 l1 x46_2).f2) x88_4).f0)) = false := decide_eq_false c65
                   clear c65
                   by_cases c72 : ((rd_T71 ((rd_T68 l1 x46_2).f2) x88_4).f1) < 1
                   ·rw [if_pos c72] at H
                    have c72b0 : decide (((rd_T71 ((rd_T68 l1 x46_2).f2) x88_4).f1) < 1) = true := decide_eq_true c72
                    clear c72
                    obtain rfl := Option.some.inj H
                    have p163 : 0 ≤ (x88_4 : Int) := of_decide_eq_true (by first | (with_reducible assumption) | assumption)
                    have q163 : x88_4 < (((rd_T68 l1 x46_2).f2).length : Int) := of_decide_eq_true (by first | (with_reducible assumption) | assumption)
                    obtain ⟨ad163, e163, hx163_0, hx163_1, hx163_2, hx163_3⟩ := at_T71 HR160_2.out x88_4 p163 q163
                    cases e163
                    replace hx163_0 := (HB.out.cell (World.block_lt_of_cell? w _ hx163_0)).trans hx163_0
                    replace hx163_1 := (HB.out.cell (World.block_lt_of_cell? w _ hx163_1)).trans hx163_1
                    replace hx163_2 := (HB.out.cell (World.block_lt_of_cell? w _ hx163_2)).trans hx163_2
                    replace hx163_3 := (HB.out.cell (World.block_lt_of_cell? w _ hx163_3)).trans hx163_3
                    replace p163 := eq_true p163
                    replace q163 := eq_true q163
                    go_wp2_with (first | ((with_reducible refine gate_dst (N := 9) rfl ?_); (try (refine gate_guard (by rfl) ?_; dsimp only)); refine box_event ?hg (N := 9) ?hd (cs := #[.int .i64 0, .int .i64 0, .int .i64 0, .int .i64 0]) (t := 71) ?hr ?_; (case hd => rfl); (case hg => rfl); (case hr => first | (go_simp; done) | (go_simp; rfl)); intro gb164 hg w73 hbox hb; have n0_ := Aside0.mk (blk_below (g := gb159) (o := .cells #[.int .i64 a0_0, .int .i64 a0_1, .int .i64 a0_2] 38 (0, 0)) (by (with_reducible repeat (first | refine blk_drewN ?_ _ | refine blk_drew ?_ | refine blk_alloc ?_ _)); exact BK159.out) hb); have n1_ := Aside0.mk (blk_below (g := gb161) (o := .cells #[.string ((rd_T68 l1 x46_2).f0), .int .i64 ((rd_T68 l1 x46_2).f1), .slice (some ad163) ((rd_T68 l1 x46_2).f2).length c160_2] 68 (0, 0)) (by (with_reducible repeat (first | refine blk_drewN ?_ _ | refine blk_drew ?_ | refine blk_alloc ?_ _)); exact BK161.out) hb); have n2_ := Aside0.mk (below_step (by repeat (first | (with_reducible first | exact HB.out | apply below_alloc | apply pw_below_drewN | apply below_drew1 | refine below_set ?_ GE159.out | refine below_set ?_ GE161.out) | exact HB.out)) hb); have n3_ := Aside0.mk (hbox); have n4_ := Aside0.mk ((by rw [hg]; exact (below_size (by repeat (first | (with_reducible first | exact HB.out | apply below_alloc | apply pw_below_drewN | apply below_drew1 | refine below_set ?_ GE159.out | refine below_set ?_ GE161.out) | exact HB.out))) : w.heap.size ≤ gb164)); have n5_ := Aside0.mk ((by rw [hg]; exact (below_size (by repeat (first | (with_reducible first | exact HB.out | apply below_alloc | apply pw_below_drewN | apply below_drew1 | refine below_set ?_ GE159.out | refine below_set ?_ GE161.out) | exact HB.out))) : w.heap.size ≤ gb164)); have n6_ := Aside0.mk ((by rw [hg]; exact Nat.ne_of_lt (blk_lt (g := gb159) (o := .cells #[.int .i64 a0_0, .int .i64 a0_1, .int .i64 a0_2] 38 (0, 0)) (by (with_reducible repeat (first | refine blk_drewN ?_ _ | refine blk_drew ?_ | refine blk_alloc ?_ _)); exact BK159.out)) : gb159 ≠ gb164)); have n7_ := Aside0.mk ((by rw [hg]; exact Nat.ne_of_gt (blk_lt (g := gb159) (o := .cells #[.int .i64 a0_0, .int .i64 a0_1, .int .i64 a0_2] 38 (0, 0)) (by (with_reducible repeat (first | refine blk_drewN ?_ _ | refine blk_drew ?_ | refine blk_alloc ?_ _)); exact BK159.out)) : gb164 ≠ gb159)); have n8_ := Aside0.mk ((by rw [hg]; exact Nat.ne_of_lt (blk_lt (g := gb161) (o := .cells #[.string ((rd_T68 l1 x46_2).f0), .int .i64 ((rd_T68 l1 x46_2).f1), .slice (some ad163) ((rd_T68 l1 x46_2).f2).length c160_2] 68 (0, 0)) (by (with_reducible repeat (first | refine blk_drewN ?_ _ | refine blk_drew ?_ | refine blk_alloc ?_ _)); exact BK161.out)) : gb161 ≠ gb164)); have n9_ := Aside0.mk ((by rw [hg]; exact Nat.ne_of_gt (blk_lt (g := gb161) (o := .cells #[.string ((rd_T68 l1 x46_2).f0), .int .i64 ((rd_T68 l1 x46_2).f1), .slice (some ad163) ((rd_T68 l1 x46_2).f2).length c160_2] 68 (0, 0)) (by (with_reducible repeat (first | refine blk_drewN ?_ _ | refine blk_drew ?_ | refine blk_alloc ?_ _)); exact BK161.out)) : gb164 ≠ gb161)); clear BK159; clear BK161; clear HB; have BK159 := n0_; have BK161 := n1_; have HB := n2_; have BK164 := n3_; have GW164 := n4_; have GE164 := n5_; have NB159_164 := n6_; have NB164_159 := n7_; have NB161_164 := n8_; have NB164_161 := n9_; clear n0_ n1_ n2_ n3_ n4_ n5_ n6_ n7_ n8_ n9_; have m0_ := Aside0.mk (blk_below (g := BM) (o := om) (by (with_reducible repeat (first | refine blk_drewN ?_ _ | refine blk_drew ?_ | refine blk_alloc ?_ _ | refine obj_far ?_ GNE159.out _ | refine obj_far ?_ GNE161.out _ | refine obj_far ?_ GNE164.out _)); exact BKM.out) hb); have m1_ := Aside0.mk (show BM ≠ gb164 from Nat.ne_of_lt (by rw [hg]; exact blk_lt (o := om) (by (with_reducible repeat (first | refine blk_drewN ?_ _ | refine blk_drew ?_ | refine blk_alloc ?_ _ | refine obj_far ?_ GNE159.out _ | refine obj_far ?_ GNE161.out _ | refine obj_far ?_ GNE164.out _)); exact BKM.out))); clear BKM; have BKM := m0_; have GNE164 := m1_; clear m0_ m1_; clear hb hbox hg; have hnb74 := NB164_159.out; have hnc74 := NB159_164.out; have hnb75 := NB164_161.out; have hnc75 := NB161_164.out; have hcz76_0 : w73.cell? ⟨gb164, 0, none⟩ = some (.int .i64 0) := (blk_cell BK164.out 0).trans rfl; have hcz76_1 : w73.cell? ⟨gb164, 1, none⟩ = some (.int .i64 0) := (blk_cell BK164.out 1).trans rfl; have hcz76_2 : w73.cell? ⟨gb164, 2, none⟩ = some (.int .i64 0) := (blk_cell BK164.out 2).trans rfl; have hcz76_3 : w73.cell? ⟨gb164, 3, none⟩ = some (.int .i64 0) := (blk_cell BK164.out 3).trans rfl; have hfz76_0 := blk_frozen BK164.out 0; have hfz76_1 := blk_frozen BK164.out 1; have hfz76_2 := blk_frozen BK164.out 2; have hfz76_3 := blk_frozen BK164.out 3; have hnb77 := NB159_161.out; have hnc77 := NB161_159.out; have hcz78_0 : w73.cell? ⟨gb159, 0, none⟩ = some (.int .i64 a0_0) := (blk_cell BK159.out 0).trans rfl; have hcz78_1 : w73.cell? ⟨gb159, 1, none⟩ = some (.int .i64 a0_1) := (blk_cell BK159.out 1).trans rfl; have hcz78_2 : w73.cell? ⟨gb159, 2, none⟩ = some (.int .i64 a0_2) := (blk_cell BK159.out 2).trans rfl; have hfz78_0 := blk_frozen BK159.out 0; have hfz78_1 := blk_frozen BK159.out 1; have hfz78_2 := blk_frozen BK159.out 2) | ((with_reducible refine gate_ (Op.lookup 73 (.tmp 55) (.tmp 57) false) rfl ?_); (try (refine gate_guard (by rfl) ?_; dsimp only)); refine wpList_lookup_seen rfl rfl Tryd.underlying9 Tryd.underlying73 Tryd.underlying4 (by kernel_rfl) BM x5_2 om (by (with_reducible repeat (first | refine blk_drewN ?_ _ | refine blk_drew ?_ | refine blk_alloc ?_ _ | refine obj_far ?_ GNE159.out _ | refine obj_far ?_ GNE161.out _ | refine obj_far ?_ GNE164.out _)); exact BKM.out) HS.out ((rd_T68 l1 x46_2).f0) KS.out rfl rfl ?_; (try rw [c27b0])) | ((with_reducible refine gate_ (Op.mapUpdate 73 (.tmp 82) (.tmp 84) (.const (.bool true))) rfl ?_); refine wpList_update_seen rfl rfl Tryd.underlying9 Tryd.underlying73 Tryd.underlying4 BM x5_2 om (by (with_reducible repeat (first | refine blk_drewN ?_ _ | refine blk_drew ?_ | refine blk_alloc ?_ _ | refine obj_far ?_ GNE159.out _ | refine obj_far ?_ GNE161.out _ | refine obj_far ?_ GNE164.out _)); exact BKM.out) HS.out ((rd_T68 l1 x46_2).f0) KS.out KL.out rfl rfl rfl ?_; intro wm2 hsm2 hgr2; have n0_ := Aside0.mk (pw_below_grown (by repeat (first | (with_reducible first | exact HB.out | apply below_alloc | apply pw_below_drewN | apply below_drew1 | refine below_set ?_ GE159.out | refine below_set ?_ GE161.out | refine below_set ?_ GE164.out) | exact HB.out)) (some BM) (below_size (by repeat (first | (with_reducible first | exact HB.out | apply below_alloc | apply pw_below_drewN | apply below_drew1 | refine below_set ?_ GE159.out | refine below_set ?_ GE161.out | refine below_set ?_ GE164.out) | exact HB.out))) hgr2 (fun k_ hk_ => by cases hk_; exact HBM.out)); (try (have b_ := Aside0.mk (blk_grown (g := gb159) (o := _) (by (with_reducible repeat (first | refine blk_drewN ?_ _ | refine blk_drew ?_ | refine blk_alloc ?_ _ | refine blk_put (g := gb159) ?_ _ _ rfl | refine obj_far ?_ (NB159_161.out) _ | refine obj_far ?_ (NB159_164.out) _)); exact BK159.out) hgr2 (fun e_ => GNE159.out (Option.some.inj e_).symm)); clear BK159; have BK159 := b_; clear b_)); (try (have hzm159_0 : wm2.cell? ⟨gb159, 0, none⟩ = some (.int .i64 a0_0) := (blk_cell BK159.out 0).trans rfl)); (try (have hfm159_0 := blk_frozen BK159.out 0)); (try (have hzm159_1 : wm2.cell? ⟨gb159, 1, none⟩ = some (.int .i64 a0_1) := (blk_cell BK159.out 1).trans rfl)); (try (have hfm159_1 := blk_frozen BK159.out 1)); (try (have hzm159_2 : wm2.cell? ⟨gb159, 2, none⟩ = some (.int .i64 a0_2) := (blk_cell BK159.out 2).trans rfl)); (try (have hfm159_2 := blk_frozen BK159.out 2)); (try (have b_ := Aside0.mk (blk_grown (g := gb161) (o := _) (by (with_reducible repeat (first | refine blk_drewN ?_ _ | refine blk_drew ?_ | refine blk_alloc ?_ _ | refine blk_put (g := gb161) ?_ _ _ rfl | refine obj_far ?_ (NB161_159.out) _ | refine obj_far ?_ (NB161_164.out) _)); exact BK161.out) hgr2 (fun e_ => GNE161.out (Option.some.inj e_).symm)); clear BK161; have BK161 := b_; clear b_)); (try (have hzm161_0 : wm2.cell? ⟨gb161, 0, none⟩ = some (.string ((rd_T68 l1 x46_2).f0)) := (blk_cell BK161.out 0).trans rfl)); (try (have hfm161_0 := blk_frozen BK161.out 0)); (try (have hzm161_1 : wm2.cell? ⟨gb161, 1, none⟩ = some (.int .i64 ((rd_T68 l1 x46_2).f1)) := (blk_cell BK161.out 1).trans rfl)); (try (have hfm161_1 := blk_frozen BK161.out 1)); (try (have hzm161_2 : wm2.cell? ⟨gb161, 2, none⟩ = some ((.slice A160_2 ((rd_T68 l1 x46_2).f2).length c160_2)) := (blk_cell BK161.out 2).trans rfl)); (try (have hfm161_2 := blk_frozen BK161.out 2)); (try (have b_ := Aside0.mk (blk_grown (g := gb164) (o := _) (by (with_reducible repeat (first | refine blk_drewN ?_ _ | refine blk_drew ?_ | refine blk_alloc ?_ _ | refine blk_put (g := gb164) ?_ _ _ rfl | refine obj_far ?_ (NB164_159.out) _ | refine obj_far ?_ (NB164_161.out) _)); exact BK164.out) hgr2 (fun e_ => GNE164.out (Option.some.inj e_).symm)); clear BK164; have BK164 := b_; clear b_)); clear HB; have HB := n0_; clear n0_; clear BKM HS; obtain ⟨om, hom2, hos2⟩ := hsm2; have BKM := Aside0.mk hom2; have HS := Aside0.mk hos2; clear hom2 hos2 hgr2))
                    go_ret
                    exact ⟨by first | rfl | (simp [errW_none, errW_some] <;> rfl) | (simp [*, errW_none, errW_some] <;> rfl), by repeat (first | (with_reducible first | exact HB.out | apply below_alloc | apply pw_below_drewN | apply below_drew1 | refine below_set ?_ GE159.out | refine below_set ?_ GE161.out | refine below_set ?_ GE164.out) | exact HB.out)⟩
                   ·rw [if_neg c72] at H
                    have c72b0 : decide (((rd_T71 ((rd_T68 l1 x46_2).f2) x88_4).f1) < 1) = false := decide_eq_false c72
                    clear c72
                    by_cases c79 : ((rd_T71 ((rd_T68 l1 x46_2).f2) x88_4).f1) > 1000
                    ·rw [if_pos c79] at H
                     have c79b0 : decide (1000 < ((rd_T71 ((rd_T68 l1 x46_2).f2) x88_4).f1)) = true := decide_eq_true c79
                     clear c79
                     obtain rfl := Option.some.inj H
                     have p163 : 0 ≤ (x88_4 : Int) := of_decide_eq_true (by first | (with_reducible assumption) | assumption)
                     have q163 : x88_4 < (((rd_T68 l1 x46_2).f2).length : Int) := of_decide_eq_true (by first | (with_reducible assumption) | assumption)
                     obtain ⟨ad163, e163, hx163_0, hx163_1, hx163_2, hx163_3⟩ := at_T71 HR160_2.out x88_4 p163 q163
                     cases e163
                     replace hx163_0 := (HB.out.cell (World.block_lt_of_cell? w _ hx163_0)).trans hx163_0
                     replace hx163_1 := (HB.out.cell (World.block_lt_of_cell? w _ hx163_1)).trans hx163_1
                     replace hx163_2 := (HB.out.cell (World.block_lt_of_cell? w _ hx163_2)).trans hx163_2
                     replace hx163_3 := (HB.out.cell (World.block_lt_of_cell? w _ hx163_3)).trans hx163_3
                     replace p163 := eq_true p163
                     replace q163 := eq_true q163
                     go_wp2_with (first | ((with_reducible refine gate_dst (N := 9) rfl ?_); (try (refine gate_guard (by rfl) ?_; dsimp only)); refine box_event ?hg (N := 9) ?hd (cs := #[.int .i64 0, .int .i64 0, .int .i64 0, .int .i64 0]) (t := 71) ?hr ?_; (case hd => rfl); (case hg => rfl); (case hr => first | (go_simp; done) | (go_simp; rfl)); intro gb164 hg w80 hbox hb; have n0_ := Aside0.mk (blk_below (g := gb159) (o := .cells #[.int .i64 a0_0, .int .i64 a0_1, .int .i64 a0_2] 38 (0, 0)) (by (with_reducible repeat (first | refine blk_drewN ?_ _ | refine blk_drew ?_ | refine blk_alloc ?_ _)); exact BK159.out) hb); have n1_ := Aside0.mk (blk_below (g := gb161) (o := .cells #[.string ((rd_T68 l1 x46_2).f0), .int .i64 ((rd_T68 l1 x46_2).f1), .slice (some ad163) ((rd_T68 l1 x46_2).f2).length c160_2] 68 (0, 0)) (by (with_reducible repeat (first | refine blk_drewN ?_ _ | refine blk_drew ?_ | refine blk_alloc ?_ _)); exact BK161.out) hb); have n2_ := Aside0.mk (below_step (by repeat (first | (with_reducible first | exact HB.out | apply below_alloc | apply pw_below_drewN | apply below_drew1 | refine below_set ?_ GE159.out | refine below_set ?_ GE161.out) | exact HB.out)) hb); have n3_ := Aside0.mk (hbox); have n4_ := Aside0.mk ((by rw [hg]; exact (below_size (by repeat (first | (with_reducible first | exact HB.out | apply below_alloc | apply pw_below_drewN | apply below_drew1 | refine below_set ?_ GE159.out | refine below_set ?_ GE161.out) | exact HB.out))) : w.heap.size ≤ gb164)); have n5_ := Aside0.mk ((by rw [hg]; exact (below_size (by repeat (first | (with_reducible first | exact HB.out | apply below_alloc | apply pw_below_drewN | apply below_drew1 | refine below_set ?_ GE159.out | refine below_set ?_ GE161.out) | exact HB.out))) : w.heap.size ≤ gb164)); have n6_ := Aside0.mk ((by rw [hg]; exact Nat.ne_of_lt (blk_lt (g := gb159) (o := .cells #[.int .i64 a0_0, .int .i64 a0_1, .int .i64 a0_2] 38 (0, 0)) (by (with_reducible repeat (first | refine blk_drewN ?_ _ | refine blk_drew ?_ | refine blk_alloc ?_ _)); exact BK159.out)) : gb159 ≠ gb164)); have n7_ := Aside0.mk ((by rw [hg]; exact Nat.ne_of_gt (blk_lt (g := gb159) (o := .cells #[.int .i64 a0_0, .int .i64 a0_1, .int .i64 a0_2] 38 (0, 0)) (by (with_reducible repeat (first | refine blk_drewN ?_ _ | refine blk_drew ?_ | refine blk_alloc ?_ _)); exact BK159.out)) : gb164 ≠ gb159)); have n8_ := Aside0.mk ((by rw [hg]; exact Nat.ne_of_lt (blk_lt (g := gb161) (o := .cells #[.string ((rd_T68 l1 x46_2).f0), .int .i64 ((rd_T68 l1 x46_2).f1), .slice (some ad163) ((rd_T68 l1 x46_2).f2).length c160_2] 68 (0, 0)) (by (with_reducible repeat (first | refine blk_drewN ?_ _ | refine blk_drew ?_ | refine blk_alloc ?_ _)); exact BK161.out)) : gb161 ≠ gb164)); have n9_ := Aside0.mk ((by rw [hg]; exact Nat.ne_of_gt (blk_lt (g := gb161) (o := .cells #[.string ((rd_T68 l1 x46_2).f0), .int .i64 ((rd_T68 l1 x46_2).f1), .slice (some ad163) ((rd_T68 l1 x46_2).f2).length c160_2] 68 (0, 0)) (by (with_reducible repeat (first | refine blk_drewN ?_ _ | refine blk_drew ?_ | refine blk_alloc ?_ _)); exact BK161.out)) : gb164 ≠ gb161)); clear BK159; clear BK161; clear HB; have BK159 := n0_; have BK161 := n1_; have HB := n2_; have BK164 := n3_; have GW164 := n4_; have GE164 := n5_; have NB159_164 := n6_; have NB164_159 := n7_; have NB161_164 := n8_; have NB164_161 := n9_; clear n0_ n1_ n2_ n3_ n4_ n5_ n6_ n7_ n8_ n9_; have m0_ := Aside0.mk (blk_below (g := BM) (o := om) (by (with_reducible repeat (first | refine blk_drewN ?_ _ | refine blk_drew ?_ | refine blk_alloc ?_ _ | refine obj_far ?_ GNE159.out _ | refine obj_far ?_ GNE161.out _ | refine obj_far ?_ GNE164.out _)); exact BKM.out) hb); have m1_ := Aside0.mk (show BM ≠ gb164 from Nat.ne_of_lt (by rw [hg]; exact blk_lt (o := om) (by (with_reducible repeat (first | refine blk_drewN ?_ _ | refine blk_drew ?_ | refine blk_alloc ?_ _ | refine obj_far ?_ GNE159.out _ | refine obj_far ?_ GNE161.out _ | refine obj_far ?_ GNE164.out _)); exact BKM.out))); clear BKM; have BKM := m0_; have GNE164 := m1_; clear m0_ m1_; clear hb hbox hg; have hnb81 := NB164_159.out; have hnc81 := NB159_164.out; have hnb82 := NB164_161.out; have hnc82 := NB161_164.out; have hcz83_0 : w80.cell? ⟨gb164, 0, none⟩ = some (.int .i64 0) := (blk_cell BK164.out 0).trans rfl; have hcz83_1 : w80.cell? ⟨gb164, 1, none⟩ = some (.int .i64 0) := (blk_cell BK164.out 1).trans rfl; have hcz83_2 : w80.cell? ⟨gb164, 2, none⟩ = some (.int .i64 0) := (blk_cell BK164.out 2).trans rfl; have hcz83_3 : w80.cell? ⟨gb164, 3, none⟩ = some (.int .i64 0) := (blk_cell BK164.out 3).trans rfl; have hfz83_0 := blk_frozen BK164.out 0; have hfz83_1 := blk_frozen BK164.out 1; have hfz83_2 := blk_frozen BK164.out 2; have hfz83_3 := blk_frozen BK164.out 3; have hnb84 := NB159_161.out; have hnc84 := NB161_159.out; have hcz85_0 : w80.cell? ⟨gb159, 0, none⟩ = some (.int .i64 a0_0) := (blk_cell BK159.out 0).trans rfl; have hcz85_1 : w80.cell? ⟨gb159, 1, none⟩ = some (.int .i64 a0_1) := (blk_cell BK159.out 1).trans rfl; have hcz85_2 : w80.cell? ⟨gb159, 2, none⟩ = some (.int .i64 a0_2) := (blk_cell BK159.out 2).trans rfl; have hfz85_0 := blk_frozen BK159.out 0; have hfz85_1 := blk_frozen BK159.out 1; have hfz85_2 := blk_frozen BK159.out 2) | ((with_reducible refine gate_ (Op.lookup 73 (.tmp 55) (.tmp 57) false) rfl ?_); (try (refine gate_guard (by rfl) ?_; dsimp only)); refine wpList_lookup_seen rfl rfl Tryd.underlying9 Tryd.underlying73 Tryd.underlying4 (by kernel_rfl) BM x5_2 om (by (with_reducible repeat (first | refine blk_drewN ?_ _ | refine blk_drew ?_ | refine blk_alloc ?_ _ | refine obj_far ?_ GNE159.out _ | refine obj_far ?_ GNE161.out _ | refine obj_far ?_ GNE164.out _)); exact BKM.out) HS.out ((rd_T68 l1 x46_2).f0) KS.out rfl rfl ?_; (try rw [c27b0])) | ((with_reducible refine gate_ (Op.mapUpdate 73 (.tmp 82) (.tmp 84) (.const (.bool true))) rfl ?_); refine wpList_update_seen rfl rfl Tryd.underlying9 Tryd.underlying73 Tryd.underlying4 BM x5_2 om (by (with_reducible repeat (first | refine blk_drewN ?_ _ | refine blk_drew ?_ | refine blk_alloc ?_ _ | refine obj_far ?_ GNE159.out _ | refine obj_far ?_ GNE161.out _ | refine obj_far ?_ GNE164.out _)); exact BKM.out) HS.out ((rd_T68 l1 x46_2).f0) KS.out KL.out rfl rfl rfl ?_; intro wm2 hsm2 hgr2; have n0_ := Aside0.mk (pw_below_grown (by repeat (first | (with_reducible first | exact HB.out | apply below_alloc | apply pw_below_drewN | apply below_drew1 | refine below_set ?_ GE159.out | refine below_set ?_ GE161.out | refine below_set ?_ GE164.out) | exact HB.out)) (some BM) (below_size (by repeat (first | (with_reducible first | exact HB.out | apply below_alloc | apply pw_below_drewN | apply below_drew1 | refine below_set ?_ GE159.out | refine below_set ?_ GE161.out | refine below_set ?_ GE164.out) | exact HB.out))) hgr2 (fun k_ hk_ => by cases hk_; exact HBM.out)); (try (have b_ := Aside0.mk (blk_grown (g := gb159) (o := _) (by (with_reducible repeat (first | refine blk_drewN ?_ _ | refine blk_drew ?_ | refine blk_alloc ?_ _ | refine blk_put (g := gb159) ?_ _ _ rfl | refine obj_far ?_ (NB159_161.out) _ | refine obj_far ?_ (NB159_164.out) _)); exact BK159.out) hgr2 (fun e_ => GNE159.out (Option.some.inj e_).symm)); clear BK159; have BK159 := b_; clear b_)); (try (have hzm159_0 : wm2.cell? ⟨gb159, 0, none⟩ = some (.int .i64 a0_0) := (blk_cell BK159.out 0).trans rfl)); (try (have hfm159_0 := blk_frozen BK159.out 0)); (try (have hzm159_1 : wm2.cell? ⟨gb159, 1, none⟩ = some (.int .i64 a0_1) := (blk_cell BK159.out 1).trans rfl)); (try (have hfm159_1 := blk_frozen BK159.out 1)); (try (have hzm159_2 : wm2.cell? ⟨gb159, 2, none⟩ = some (.int .i64 a0_2) := (blk_cell BK159.out 2).trans rfl)); (try (have hfm159_2 := blk_frozen BK159.out 2)); (try (have b_ := Aside0.mk (blk_grown (g := gb161) (o := _) (by (with_reducible repeat (first | refine blk_drewN ?_ _ | refine blk_drew ?_ | refine blk_alloc ?_ _ | refine blk_put (g := gb161) ?_ _ _ rfl | refine obj_far ?_ (NB161_159.out) _ | refine obj_far ?_ (NB161_164.out) _)); exact BK161.out) hgr2 (fun e_ => GNE161.out (Option.some.inj e_).symm)); clear BK161; have BK161 := b_; clear b_)); (try (have hzm161_0 : wm2.cell? ⟨gb161, 0, none⟩ = some (.string ((rd_T68 l1 x46_2).f0)) := (blk_cell BK161.out 0).trans rfl)); (try (have hfm161_0 := blk_frozen BK161.out 0)); (try (have hzm161_1 : wm2.cell? ⟨gb161, 1, none⟩ = some (.int .i64 ((rd_T68 l1 x46_2).f1)) := (blk_cell BK161.out 1).trans rfl)); (try (have hfm161_1 := blk_frozen BK161.out 1)); (try (have hzm161_2 : wm2.cell? ⟨gb161, 2, none⟩ = some ((.slice A160_2 ((rd_T68 l1 x46_2).f2).length c160_2)) := (blk_cell BK161.out 2).trans rfl)); (try (have hfm161_2 := blk_frozen BK161.out 2)); (try (have b_ := Aside0.mk (blk_grown (g := gb164) (o := _) (by (with_reducible repeat (first | refine blk_drewN ?_ _ | refine blk_drew ?_ | refine blk_alloc ?_ _ | refine blk_put (g := gb164) ?_ _ _ rfl | refine obj_far ?_ (NB164_159.out) _ | refine obj_far ?_ (NB164_161.out) _)); exact BK164.out) hgr2 (fun e_ => GNE164.out (Option.some.inj e_).symm)); clear BK164; have BK164 := b_; clear b_)); clear HB; have HB := n0_; clear n0_; clear BKM HS; obtain ⟨om, hom2, hos2⟩ := hsm2; have BKM := Aside0.mk hom2; have HS := Aside0.mk hos2; clear hom2 hos2 hgr2))
                     go_ret
                     exact ⟨by first | rfl | (simp [errW_none, errW_some] <;> rfl) | (simp [*, errW_none, errW_some] <;> rfl), by repeat (first | (with_reducible first | exact HB.out | apply below_alloc | apply pw_below_drewN | apply below_drew1 | refine below_set ?_ GE159.out | refine below_set ?_ GE161.out | refine below_set ?_ GE164.out) | exact HB.out)⟩
                    ·rw [if_neg c79] at H
                     have c79b0 : decide (1000 < ((rd_T71 ((rd_T68 l1 x46_2).f2) x88_4).f1)) = false := decide_eq_false c79
                     clear c79
                     by_cases c86 : ((rd_T71 ((rd_T68 l1 x46_2).f2) x88_4).f2) < 0
                     ·rw [if_pos c86] at H
                      have c86b0 : decide (((rd_T71 ((rd_T68 l1 x46_2).f2) x88_4).f2) < 0) = true := decide_eq_true c86
                      clear c86
                      obtain rfl := Option.some.inj H
                      have p163 : 0 ≤ (x88_4 : Int) := of_decide_eq_true (by first | (with_reducible assumption) | assumption)
                      have q163 : x88_4 < (((rd_T68 l1 x46_2).f2).length : Int) := of_decide_eq_true (by first | (with_reducible assumption) | assumption)
                      obtain ⟨ad163, e163, hx163_0, hx163_1, hx163_2, hx163_3⟩ := at_T71 HR160_2.out x88_4 p163 q163
                      cases e163
                      replace hx163_0 := (HB.out.cell (World.block_lt_of_cell? w _ hx163_0)).trans hx163_0
                      replace hx163_1 := (HB.out.cell (World.block_lt_of_cell? w _ hx163_1)).trans hx163_1
                      replace hx163_2 := (HB.out.cell (World.block_lt_of_cell? w _ hx163_2)).trans hx163_2
                      replace hx163_3 := (HB.out.cell (World.block_lt_of_cell? w _ hx163_3)).trans hx163_3
                      replace p163 := eq_true p163
                      replace q163 := eq_true q163
                      go_wp2_with (first | ((with_reducible refine gate_dst (N := 9) rfl ?_); (try (refine gate_guard (by rfl) ?_; dsimp only)); refine box_event ?hg (N := 9) ?hd (cs := #[.int .i64 0, .int .i64 0, .int .i64 0, .int .i64 0]) (t := 71) ?hr ?_; (case hd => rfl); (case hg => rfl); (case hr => first | (go_simp; done) | (go_simp; rfl)); intro gb164 hg w87 hbox hb; have n0_ := Aside0.mk (blk_below (g := gb159) (o := .cells #[.int .i64 a0_0, .int .i64 a0_1, .int .i64 a0_2] 38 (0, 0)) (by (with_reducible repeat (first | refine blk_drewN ?_ _ | refine blk_drew ?_ | refine blk_alloc ?_ _)); exact BK159.out) hb); have n1_ := Aside0.mk (blk_below (g := gb161) (o := .cells #[.string ((rd_T68 l1 x46_2).f0), .int .i64 ((rd_T68 l1 x46_2).f1), .slice (some ad163) ((rd_T68 l1 x46_2).f2).length c160_2] 68 (0, 0)) (by (with_reducible repeat (first | refine blk_drewN ?_ _ | refine blk_drew ?_ | refine blk_alloc ?_ _)); exact BK161.out) hb); have n2_ := Aside0.mk (below_step (by repeat (first | (with_reducible first | exact HB.out | apply below_alloc | apply pw_below_drewN | apply below_drew1 | refine below_set ?_ GE159.out | refine below_set ?_ GE161.out) | exact HB.out)) hb); have n3_ := Aside0.mk (hbox); have n4_ := Aside0.mk ((by rw [hg]; exact (below_size (by repeat (first | (with_reducible first | exact HB.out | apply below_alloc | apply pw_below_drewN | apply below_drew1 | refine below_set ?_ GE159.out | refine below_set ?_ GE161.out) | exact HB.out))) : w.heap.size ≤ gb164)); have n5_ := Aside0.mk ((by rw [hg]; exact (below_size (by repeat (first | (with_reducible first | exact HB.out | apply below_alloc | apply pw_below_drewN | apply below_drew1 | refine below_set ?_ GE159.out | refine below_set ?_ GE161.out) | exact HB.out))) : w.heap.size ≤ gb164)); have n6_ := Aside0.mk ((by rw [hg]; exact Nat.ne_of_lt (blk_lt (g := gb159) (o := .cells #[.int .i64 a0_0, .int .i64 a0_1, .int .i64 a0_2] 38 (0, 0)) (by (with_reducible repeat (first | refine blk_drewN ?_ _ | refine blk_drew ?_ | refine blk_alloc ?_ _)); exact BK159.out)) : gb159 ≠ gb164)); have n7_ := Aside0.mk ((by rw [hg]; exact Nat.ne_of_gt (blk_lt (g := gb159) (o := .cells #[.int .i64 a0_0, .int .i64 a0_1, .int .i64 a0_2] 38 (0, 0)) (by (with_reducible repeat (first | refine blk_drewN ?_ _ | refine blk_drew ?_ | refine blk_alloc ?_ _)); exact BK159.out)) : gb164 ≠ gb159)); have n8_ := Aside0.mk ((by rw [hg]; exact Nat.ne_of_lt (blk_lt (g := gb161) (o := .cells #[.string ((rd_T68 l1 x46_2).f0), .int .i64 ((rd_T68 l1 x46_2).f1), .slice (some ad163) ((rd_T68 l1 x46_2).f2).length c160_2] 68 (0, 0)) (by (with_reducible repeat (first | refine blk_drewN ?_ _ | refine blk_drew ?_ | refine blk_alloc ?_ _)); exact BK161.out)) : gb161 ≠ gb164)); have n9_ := Aside0.mk ((by rw [hg]; exact Nat.ne_of_gt (blk_lt (g := gb161) (o := .cells #[.string ((rd_T68 l1 x46_2).f0), .int .i64 ((rd_T68 l1 x46_2).f1), .slice (some ad163) ((rd_T68 l1 x46_2).f2).length c160_2] 68 (0, 0)) (by (with_reducible repeat (first | refine blk_drewN ?_ _ | refine blk_drew ?_ | refine blk_alloc ?_ _)); exact BK161.out)) : gb164 ≠ gb161)); clear BK159; clear BK161; clear HB; have BK159 := n0_; have BK161 := n1_; have HB := n2_; have BK164 := n3_; have GW164 := n4_; have GE164 := n5_; have NB159_164 := n6_; have NB164_159 := n7_; have NB161_164 := n8_; have NB164_161 := n9_; clear n0_ n1_ n2_ n3_ n4_ n5_ n6_ n7_ n8_ n9_; have m0_ := Aside0.mk (blk_below (g := BM) (o := om) (by (with_reducible repeat (first | refine blk_drewN ?_ _ | refine blk_drew ?_ | refine blk_alloc ?_ _ | refine obj_far ?_ GNE159.out _ | refine obj_far ?_ GNE161.out _ | refine obj_far ?_ GNE164.out _)); exact BKM.out) hb); have m1_ := Aside0.mk (show BM ≠ gb164 from Nat.ne_of_lt (by rw [hg]; exact blk_lt (o := om) (by (with_reducible repeat (first | refine blk_drewN ?_ _ | refine blk_drew ?_ | refine blk_alloc ?_ _ | refine obj_far ?_ GNE159.out _ | refine obj_far ?_ GNE161.out _ | refine obj_far ?_ GNE164.out _)); exact BKM.out))); clear BKM; have BKM := m0_; have GNE164 := m1_; clear m0_ m1_; clear hb hbox hg; have hnb88 := NB164_159.out; have hnc88 := NB159_164.out; have hnb89 := NB164_161.out; have hnc89 := NB161_164.out; have hcz90_0 : w87.cell? ⟨gb164, 0, none⟩ = some (.int .i64 0) := (blk_cell BK164.out 0).trans rfl; have hcz90_1 : w87.cell? ⟨gb164, 1, none⟩ = some (.int .i64 0) := (blk_cell BK164.out 1).trans rfl; have hcz90_2 : w87.cell? ⟨gb164, 2, none⟩ = some (.int .i64 0) := (blk_cell BK164.out 2).trans rfl; have hcz90_3 : w87.cell? ⟨gb164, 3, none⟩ = some (.int .i64 0) := (blk_cell BK164.out 3).trans rfl; have hfz90_0 := blk_frozen BK164.out 0; have hfz90_1 := blk_frozen BK164.out 1; have hfz90_2 := blk_frozen BK164.out 2; have hfz90_3 := blk_frozen BK164.out 3; have hnb91 := NB159_161.out; have hnc91 := NB161_159.out; have hcz92_0 : w87.cell? ⟨gb159, 0, none⟩ = some (.int .i64 a0_0) := (blk_cell BK159.out 0).trans rfl; have hcz92_1 : w87.cell? ⟨gb159, 1, none⟩ = some (.int .i64 a0_1) := (blk_cell BK159.out 1).trans rfl; have hcz92_2 : w87.cell? ⟨gb159, 2, none⟩ = some (.int .i64 a0_2) := (blk_cell BK159.out 2).trans rfl; have hfz92_0 := blk_frozen BK159.out 0; have hfz92_1 := blk_frozen BK159.out 1; have hfz92_2 := blk_frozen BK159.out 2) | ((with_reducible refine gate_ (Op.lookup 73 (.tmp 55) (.tmp 57) false) rfl ?_); (try (refine gate_guard (by rfl) ?_; dsimp only)); refine wpList_lookup_seen rfl rfl Tryd.underlying9 Tryd.underlying73 Tryd.underlying4 (by kernel_rfl) BM x5_2 om (by (with_reducible repeat (first | refine blk_drewN ?_ _ | refine blk_drew ?_ | refine blk_alloc ?_ _ | refine obj_far ?_ GNE159.out _ | refine obj_far ?_ GNE161.out _ | refine obj_far ?_ GNE164.out _)); exact BKM.out) HS.out ((rd_T68 l1 x46_2).f0) KS.out rfl rfl ?_; (try rw [c27b0])) | ((with_reducible refine gate_ (Op.mapUpdate 73 (.tmp 82) (.tmp 84) (.const (.bool true))) rfl ?_); refine wpList_update_seen rfl rfl Tryd.underlying9 Tryd.underlying73 Tryd.underlying4 BM x5_2 om (by (with_reducible repeat (first | refine blk_drewN ?_ _ | refine blk_drew ?_ | refine blk_alloc ?_ _ | refine obj_far ?_ GNE159.out _ | refine obj_far ?_ GNE161.out _ | refine obj_far ?_ GNE164.out _)); exact BKM.out) HS.out ((rd_T68 l1 x46_2).f0) KS.out KL.out rfl rfl rfl ?_; intro wm2 hsm2 hgr2; have n0_ := Aside0.mk (pw_below_grown (by repeat (first | (with_reducible first | exact HB.out | apply below_alloc | apply pw_below_drewN | apply below_drew1 | refine below_set ?_ GE159.out | refine below_set ?_ GE161.out | refine below_set ?_ GE164.out) | exact HB.out)) (some BM) (below_size (by repeat (first | (with_reducible first | exact HB.out | apply below_alloc | apply pw_below_drewN | apply below_drew1 | refine below_set ?_ GE159.out | refine below_set ?_ GE161.out | refine below_set ?_ GE164.out) | exact HB.out))) hgr2 (fun k_ hk_ => by cases hk_; exact HBM.out)); (try (have b_ := Aside0.mk (blk_grown (g := gb159) (o := _) (by (with_reducible repeat (first | refine blk_drewN ?_ _ | refine blk_drew ?_ | refine blk_alloc ?_ _ | refine blk_put (g := gb159) ?_ _ _ rfl | refine obj_far ?_ (NB159_161.out) _ | refine obj_far ?_ (NB159_164.out) _)); exact BK159.out) hgr2 (fun e_ => GNE159.out (Option.some.inj e_).symm)); clear BK159; have BK159 := b_; clear b_)); (try (have hzm159_0 : wm2.cell? ⟨gb159, 0, none⟩ = some (.int .i64 a0_0) := (blk_cell BK159.out 0).trans rfl)); (try (have hfm159_0 := blk_frozen BK159.out 0)); (try (have hzm159_1 : wm2.cell? ⟨gb159, 1, none⟩ = some (.int .i64 a0_1) := (blk_cell BK159.out 1).trans rfl)); (try (have hfm159_1 := blk_frozen BK159.out 1)); (try (have hzm159_2 : wm2.cell? ⟨gb159, 2, none⟩ = some (.int .i64 a0_2) := (blk_cell BK159.out 2).trans rfl)); (try (have hfm159_2 := blk_frozen BK159.out 2)); (try (have b_ := Aside0.mk (blk_grown (g := gb161) (o := _) (by (with_reducible repeat (first | refine blk_drewN ?_ _ | refine blk_drew ?_ | refine blk_alloc ?_ _ | refine blk_put (g := gb161) ?_ _ _ rfl | refine obj_far ?_ (NB161_159.out) _ | refine obj_far ?_ (NB161_164.out) _)); exact BK161.out) hgr2 (fun e_ => GNE161.out (Option.some.inj e_).symm)); clear BK161; have BK161 := b_; clear b_)); (try (have hzm161_0 : wm2.cell? ⟨gb161, 0, none⟩ = some (.string ((rd_T68 l1 x46_2).f0)) := (blk_cell BK161.out 0).trans rfl)); (try (have hfm161_0 := blk_frozen BK161.out 0)); (try (have hzm161_1 : wm2.cell? ⟨gb161, 1, none⟩ = some (.int .i64 ((rd_T68 l1 x46_2).f1)) := (blk_cell BK161.out 1).trans rfl)); (try (have hfm161_1 := blk_frozen BK161.out 1)); (try (have hzm161_2 : wm2.cell? ⟨gb161, 2, none⟩ = some ((.slice A160_2 ((rd_T68 l1 x46_2).f2).length c160_2)) := (blk_cell BK161.out 2).trans rfl)); (try (have hfm161_2 := blk_frozen BK161.out 2)); (try (have b_ := Aside0.mk (blk_grown (g := gb164) (o := _) (by (with_reducible repeat (first | refine blk_drewN ?_ _ | refine blk_drew ?_ | refine blk_alloc ?_ _ | refine blk_put (g := gb164) ?_ _ _ rfl | refine obj_far ?_ (NB164_159.out) _ | refine obj_far ?_ (NB164_161.out) _)); exact BK164.out) hgr2 (fun e_ => GNE164.out (Option.some.inj e_).symm)); clear BK164; have BK164 := b_; clear b_)); clear HB; have HB := n0_; clear n0_; clear BKM HS; obtain ⟨om, hom2, hos2⟩ := hsm2; have BKM := Aside0.mk hom2; have HS := Aside0.mk hos2; clear hom2 hos2 hgr2))
                      go_ret
                      exact ⟨by first | rfl | (simp [errW_none, errW_some] <;> rfl) | (simp [*, errW_none, errW_some] <;> rfl), by repeat (first | (with_reducible first | exact HB.out | apply below_alloc | apply pw_below_drewN | apply below_drew1 | refine below_set ?_ GE159.out | refine below_set ?_ GE161.out | refine below_set ?_ GE164.out) | exact HB.out)⟩
                     ·rw [if_neg c86] at H
                      have c86b0 : decide (((rd_T71 ((rd_T68 l1 x46_2).f2) x88_4).f2) < 0) = false := decide_eq_false c86
                      clear c86
                      by_cases c93 : ((rd_T71 ((rd_T68 l1 x46_2).f2) x88_4).f2) > 9
                      ·rw [if_pos c93] at H
                       have c93b0 : decide (9 < ((rd_T71 ((rd_T68 l1 x46_2).f2) x88_4).f2)) = true := decide_eq_true c93
                       clear c93
                       obtain rfl := Option.some.inj H
                       have p163 : 0 ≤ (x88_4 : Int) := of_decide_eq_true (by first | (with_reducible assumption) | assumption)
                       have q163 : x88_4 < (((rd_T68 l1 x46_2).f2).length : Int) := of_decide_eq_true (by first | (with_reducible assumption) | assumption)
                       obtain ⟨ad163, e163, hx163_0, hx163_1, hx163_2, hx163_3⟩ := at_T71 HR160_2.out x88_4 p163 q163
                       cases e163
                       replace hx163_0 := (HB.out.cell (World.block_lt_of_cell? w _ hx163_0)).trans hx163_0
                       replace hx163_1 := (HB.out.cell (World.block_lt_of_cell? w _ hx163_1)).trans hx163_1
                       replace hx163_2 := (HB.out.cell (World.block_lt_of_cell? w _ hx163_2)).trans hx163_2
                       replace hx163_3 := (HB.out.cell (World.block_lt_of_cell? w _ hx163_3)).trans hx163_3
                       replace p163 := eq_true p163
                       replace q163 := eq_true q163
                       go_wp2_with (first | ((with_reducible refine gate_dst (N := 9) rfl ?_); (try (refine gate_guard (by rfl) ?_; dsimp only)); refine box_event ?hg (N := 9) ?hd (cs := #[.int .i64 0, .int .i64 0, .int .i64 0, .int .i64 0]) (t := 71) ?hr ?_; (case hd => rfl); (case hg => rfl); (case hr => first | (go_simp; done) | (go_simp; rfl)); intro gb164 hg w94 hbox hb; have n0_ := Aside0.mk (blk_below (g := gb159) (o := .cells #[.int .i64 a0_0, .int .i64 a0_1, .int .i64 a0_2] 38 (0, 0)) (by (with_reducible repeat (first | refine blk_drewN ?_ _ | refine blk_drew ?_ | refine blk_alloc ?_ _)); exact BK159.out) hb); have n1_ := Aside0.mk (blk_below (g := gb161) (o := .cells #[.string ((rd_T68 l1 x46_2).f0), .int .i64 ((rd_T68 l1 x46_2).f1), .slice (some ad163) ((rd_T68 l1 x46_2).f2).length c160_2] 68 (0, 0)) (by (with_reducible repeat (first | refine blk_drewN ?_ _ | refine blk_drew ?_ | refine blk_alloc ?_ _)); exact BK161.out) hb); have n2_ := Aside0.mk (below_step (by repeat (first | (with_reducible first | exact HB.out | apply below_alloc | apply pw_below_drewN | apply below_drew1 | refine below_set ?_ GE159.out | refine below_set ?_ GE161.out) | exact HB.out)) hb); have n3_ := Aside0.mk (hbox); have n4_ := Aside0.mk ((by rw [hg]; exact (below_size (by repeat (first | (with_reducible first | exact HB.out | apply below_alloc | apply pw_below_drewN | apply below_drew1 | refine below_set ?_ GE159.out | refine below_set ?_ GE161.out) | exact HB.out))) : w.heap.size ≤ gb164)); have n5_ := Aside0.mk ((by rw [hg]; exact (below_size (by repeat (first | (with_reducible first | exact HB.out | apply below_alloc | apply pw_below_drewN | apply below_drew1 | refine below_set ?_ GE159.out | refine below_set ?_ GE161.out) | exact HB.out))) : w.heap.size ≤ gb164)); have n6_ := Aside0.mk ((by rw [hg]; exact Nat.ne_of_lt (blk_lt (g := gb159) (o := .cells #[.int .i64 a0_0, .int .i64 a0_1, .int .i64 a0_2] 38 (0, 0)) (by (with_reducible repeat (first | refine blk_drewN ?_ _ | refine blk_drew ?_ | refine blk_alloc ?_ _)); exact BK159.out)) : gb159 ≠ gb164)); have n7_ := Aside0.mk ((by rw [hg]; exact Nat.ne_of_gt (blk_lt (g := gb159) (o := .cells #[.int .i64 a0_0, .int .i64 a0_1, .int .i64 a0_2] 38 (0, 0)) (by (with_reducible repeat (first | refine blk_drewN ?_ _ | refine blk_drew ?_ | refine blk_alloc ?_ _)); exact BK159.out)) : gb164 ≠ gb159)); have n8_ := Aside0.mk ((by rw [hg]; exact Nat.ne_of_lt (blk_lt (g := gb161) (o := .cells #[.string ((rd_T68 l1 x46_2).f0), .int .i64 ((rd_T68 l1 x46_2).f1), .slice (some ad163) ((rd_T68 l1 x46_2).f2).length c160_2] 68 (0, 0)) (by (with_reducible repeat (first | refine blk_drewN ?_ _ | refine blk_drew ?_ | refine blk_alloc ?_ _)); exact BK161.out)) : gb161 ≠ gb164)); have n9_ := Aside0.mk ((by rw [hg]; exact Nat.ne_of_gt (blk_lt (g := gb161) (o := .cells #[.string ((rd_T68 l1 x46_2).f0), .int .i64 ((rd_T68 l1 x46_2).f1), .slice (some ad163) ((rd_T68 l1 x46_2).f2).length c160_2] 68 (0, 0)) (by (with_reducible repeat (first | refine blk_drewN ?_ _ | refine blk_drew ?_ | refine blk_alloc ?_ _)); exact BK161.out)) : gb164 ≠ gb161)); clear BK159; clear BK161; clear HB; have BK159 := n0_; have BK161 := n1_; have HB := n2_; have BK164 := n3_; have GW164 := n4_; have GE164 := n5_; have NB159_164 := n6_; have NB164_159 := n7_; have NB161_164 := n8_; have NB164_161 := n9_; clear n0_ n1_ n2_ n3_ n4_ n5_ n6_ n7_ n8_ n9_; have m0_ := Aside0.mk (blk_below (g := BM) (o := om) (by (with_reducible repeat (first | refine blk_drewN ?_ _ | refine blk_drew ?_ | refine blk_alloc ?_ _ | refine obj_far ?_ GNE159.out _ | refine obj_far ?_ GNE161.out _ | refine obj_far ?_ GNE164.out _)); exact BKM.out) hb); have m1_ := Aside0.mk (show BM ≠ gb164 from Nat.ne_of_lt (by rw [hg]; exact blk_lt (o := om) (by (with_reducible repeat (first | refine blk_drewN ?_ _ | refine blk_drew ?_ | refine blk_alloc ?_ _ | refine obj_far ?_ GNE159.out _ | refine obj_far ?_ GNE161.out _ | refine obj_far ?_ GNE164.out _)); exact BKM.out))); clear BKM; have BKM := m0_; have GNE164 := m1_; clear m0_ m1_; clear hb hbox hg; have hnb95 := NB164_159.out; have hnc95 := NB159_164.out; have hnb96 := NB164_161.out; have hnc96 := NB161_164.out; have hcz97_0 : w94.cell? ⟨gb164, 0, none⟩ = some (.int .i64 0) := (blk_cell BK164.out 0).trans rfl; have hcz97_1 : w94.cell? ⟨gb164, 1, none⟩ = some (.int .i64 0) := (blk_cell BK164.out 1).trans rfl; have hcz97_2 : w94.cell? ⟨gb164, 2, none⟩ = some (.int .i64 0) := (blk_cell BK164.out 2).trans rfl; have hcz97_3 : w94.cell? ⟨gb164, 3, none⟩ = some (.int .i64 0) := (blk_cell BK164.out 3).trans rfl; have hfz97_0 := blk_frozen BK164.out 0; have hfz97_1 := blk_frozen BK164.out 1; have hfz97_2 := blk_frozen BK164.out 2; have hfz97_3 := blk_frozen BK164.out 3; have hnb98 := NB159_161.out; have hnc98 := NB161_159.out; have hcz99_0 : w94.cell? ⟨gb159, 0, none⟩ = some (.int .i64 a0_0) := (blk_cell BK159.out 0).trans rfl; have hcz99_1 : w94.cell? ⟨gb159, 1, none⟩ = some (.int .i64 a0_1) := (blk_cell BK159.out 1).trans rfl; have hcz99_2 : w94.cell? ⟨gb159, 2, none⟩ = some (.int .i64 a0_2) := (blk_cell BK159.out 2).trans rfl; have hfz99_0 := blk_frozen BK159.out 0; have hfz99_1 := blk_frozen BK159.out 1; have hfz99_2 := blk_frozen BK159.out 2) | ((with_reducible refine gate_ (Op.lookup 73 (.tmp 55) (.tmp 57) false) rfl ?_); (try (refine gate_guard (by rfl) ?_; dsimp only)); refine wpList_lookup_seen rfl rfl Tryd.underlying9 Tryd.underlying73 Tryd.underlying4 (by kernel_rfl) BM x5_2 om (by (with_reducible repeat (first | refine blk_drewN ?_ _ | refine blk_drew ?_ | refine blk_alloc ?_ _ | refine obj_far ?_ GNE159.out _ | refine obj_far ?_ GNE161.out _ | refine obj_far ?_ GNE164.out _)); exact BKM.out) HS.out ((rd_T68 l1 x46_2).f0) KS.out rfl rfl ?_; (try rw [c27b0])) | ((with_reducible refine gate_ (Op.mapUpdate 73 (.tmp 82) (.tmp 84) (.const (.bool true))) rfl ?_); refine wpList_update_seen rfl rfl Tryd.underlying9 Tryd.underlying73 Tryd.underlying4 BM x5_2 om (by (with_reducible repeat (first | refine blk_drewN ?_ _ | refine blk_drew ?_ | refine blk_alloc ?_ _ | refine obj_far ?_ GNE159.out _ | refine obj_far ?_ GNE161.out _ | refine obj_far ?_ GNE164.out _)); exact BKM.out) HS.out ((rd_T68 l1 x46_2).f0) KS.out KL.out rfl rfl rfl ?_; intro wm2 hsm2 hgr2; have n0_ := Aside0.mk (pw_below_grown (by repeat (first | (with_reducible first | exact HB.out | apply below_alloc | apply pw_below_drewN | apply below_drew1 | refine below_set ?_ GE159.out | refine below_set ?_ GE161.out | refine below_set ?_ GE164.out) | exact HB.out)) (some BM) (below_size (by repeat (first | (with_reducible first | exact HB.out | apply below_alloc | apply pw_below_drewN | apply below_drew1 | refine below_set ?_ GE159.out | refine below_set ?_ GE161.out | refine below_set ?_ GE164.out) | exact HB.out))) hgr2 (fun k_ hk_ => by cases hk_; exact HBM.out)); (try (have b_ := Aside0.mk (blk_grown (g := gb159) (o := _) (by (with_reducible repeat (first | refine blk_drewN ?_ _ | refine blk_drew ?_ | refine blk_alloc ?_ _ | refine blk_put (g := gb159) ?_ _ _ rfl | refine obj_far ?_ (NB159_161.out) _ | refine obj_far ?_ (NB159_164.out) _)); exact BK159.out) hgr2 (fun e_ => GNE159.out (Option.some.inj e_).symm)); clear BK159; have BK159 := b_; clear b_)); (try (have hzm159_0 : wm2.cell? ⟨gb159, 0, none⟩ = some (.int .i64 a0_0) := (blk_cell BK159.out 0).trans rfl)); (try (have hfm159_0 := blk_frozen BK159.out 0)); (try (have hzm159_1 : wm2.cell? ⟨gb159, 1, none⟩ = some (.int .i64 a0_1) := (blk_cell BK159.out 1).trans rfl)); (try (have hfm159_1 := blk_frozen BK159.out 1)); (try (have hzm159_2 : wm2.cell? ⟨gb159, 2, none⟩ = some (.int .i64 a0_2) := (blk_cell BK159.out 2).trans rfl)); (try (have hfm159_2 := blk_frozen BK159.out 2)); (try (have b_ := Aside0.mk (blk_grown (g := gb161) (o := _) (by (with_reducible repeat (first | refine blk_drewN ?_ _ | refine blk_drew ?_ | refine blk_alloc ?_ _ | refine blk_put (g := gb161) ?_ _ _ rfl | refine obj_far ?_ (NB161_159.out) _ | refine obj_far ?_ (NB161_164.out) _)); exact BK161.out) hgr2 (fun e_ => GNE161.out (Option.some.inj e_).symm)); clear BK161; have BK161 := b_; clear b_)); (try (have hzm161_0 : wm2.cell? ⟨gb161, 0, none⟩ = some (.string ((rd_T68 l1 x46_2).f0)) := (blk_cell BK161.out 0).trans rfl)); (try (have hfm161_0 := blk_frozen BK161.out 0)); (try (have hzm161_1 : wm2.cell? ⟨gb161, 1, none⟩ = some (.int .i64 ((rd_T68 l1 x46_2).f1)) := (blk_cell BK161.out 1).trans rfl)); (try (have hfm161_1 := blk_frozen BK161.out 1)); (try (have hzm161_2 : wm2.cell? ⟨gb161, 2, none⟩ = some ((.slice A160_2 ((rd_T68 l1 x46_2).f2).length c160_2)) := (blk_cell BK161.out 2).trans rfl)); (try (have hfm161_2 := blk_frozen BK161.out 2)); (try (have b_ := Aside0.mk (blk_grown (g := gb164) (o := _) (by (with_reducible repeat (first | refine blk_drewN ?_ _ | refine blk_drew ?_ | refine blk_alloc ?_ _ | refine blk_put (g := gb164) ?_ _ _ rfl | refine obj_far ?_ (NB164_159.out) _ | refine obj_far ?_ (NB164_161.out) _)); exact BK164.out) hgr2 (fun e_ => GNE164.out (Option.some.inj e_).symm)); clear BK164; have BK164 := b_; clear b_)); clear HB; have HB := n0_; clear n0_; clear BKM HS; obtain ⟨om, hom2, hos2⟩ := hsm2; have BKM := Aside0.mk hom2; have HS := Aside0.mk hos2; clear hom2 hos2 hgr2))
                       go_ret
                       exact ⟨by first | rfl | (simp [errW_none, errW_some] <;> rfl) | (simp [*, errW_none, errW_some] <;> rfl), by repeat (first | (with_reducible first | exact HB.out | apply below_alloc | apply pw_below_drewN | apply below_drew1 | refine below_set ?_ GE159.out | refine below_set ?_ GE161.out | refine below_set ?_ GE164.out) | exact HB.out)⟩
                      ·rw [if_neg c93] at H
                       have c93b0 : decide (9 < ((rd_T71 ((rd_T68 l1 x46_2).f2) x88_4).f2)) = false := decide_eq_false c93
                       clear c93
                       by_cases c100 : ((rd_T71 ((rd_T68 l1 x46_2).f2) x88_4).f3) < 0
                       ·rw [if_pos c100] at H
                        have c100b0 : decide (((rd_T71 ((rd_T68 l1 x46_2).f2) x88_4).f3) < 0) = true := decide_eq_true c100
                        clear c100
                        obtain rfl := Option.some.inj H
                        have p163 : 0 ≤ (x88_4 : Int) := of_decide_eq_true (by first | (with_reducible assumption) | assumption)
                        have q163 : x88_4 < (((rd_T68 l1 x46_2).f2).length : Int) := of_decide_eq_true (by first | (with_reducible assumption) | assumption)
                        obtain ⟨ad163, e163, hx163_0, hx163_1, hx163_2, hx163_3⟩ := at_T71 HR160_2.out x88_4 p163 q163
                        cases e163
                        replace hx163_0 := (HB.out.cell (World.block_lt_of_cell? w _ hx163_0)).trans hx163_0
                        replace hx163_1 := (HB.out.cell (World.block_lt_of_cell? w _ hx163_1)).trans hx163_1
                        replace hx163_2 := (HB.out.cell (World.block_lt_of_cell? w _ hx163_2)).trans hx163_2
                        replace hx163_3 := (HB.out.cell (World.block_lt_of_cell? w _ hx163_3)).trans hx163_3
                        replace p163 := eq_true p163
                        replace q163 := eq_true q163
                        go_wp2_with (first | ((with_reducible refine gate_dst (N := 9) rfl ?_); (try (refine gate_guard (by rfl) ?_; dsimp only)); refine box_event ?hg (N := 9) ?hd (cs := #[.int .i64 0, .int .i64 0, .int .i64 0, .int .i64 0]) (t := 71) ?hr ?_; (case hd => rfl); (case hg => rfl); (case hr => first | (go_simp; done) | (go_simp; rfl)); intro gb164 hg w101 hbox hb; have n0_ := Aside0.mk (blk_below (g := gb159) (o := .cells #[.int .i64 a0_0, .int .i64 a0_1, .int .i64 a0_2] 38 (0, 0)) (by (with_reducible repeat (first | refine blk_drewN ?_ _ | refine blk_drew ?_ | refine blk_alloc ?_ _)); exact BK159.out) hb); have n1_ := Aside0.mk (blk_below (g := gb161) (o := .cells #[.string ((rd_T68 l1 x46_2).f0), .int .i64 ((rd_T68 l1 x46_2).f1), .slice (some ad163) ((rd_T68 l1 x46_2).f2).length c160_2] 68 (0, 0)) (by (with_reducible repeat (first | refine blk_drewN ?_ _ | refine blk_drew ?_ | refine blk_alloc ?_ _)); exact BK161.out) hb); have n2_ := Aside0.mk (below_step (by repeat (first | (with_reducible first | exact HB.out | apply below_alloc | apply pw_below_drewN | apply below_drew1 | refine below_set ?_ GE159.out | refine below_set ?_ GE161.out) | exact HB.out)) hb); have n3_ := Aside0.mk (hbox); have n4_ := Aside0.mk ((by rw [hg]; exact (below_size (by repeat (first | (with_reducible first | exact HB.out | apply below_alloc | apply pw_below_drewN | apply below_drew1 | refine below_set ?_ GE159.out | refine below_set ?_ GE161.out) | exact HB.out))) : w.heap.size ≤ gb164)); have n5_ := Aside0.mk ((by rw [hg]; exact (below_size (by repeat (first | (with_reducible first | exact HB.out | apply below_alloc | apply pw_below_drewN | apply below_drew1 | refine below_set ?_ GE159.out | refine below_set ?_ GE161.out) | exact HB.out))) : w.heap.size ≤ gb164)); have n6_ := Aside0.mk ((by rw [hg]; exact Nat.ne_of_lt (blk_lt (g := gb159) (o := .cells #[.int .i64 a0_0, .int .i64 a0_1, .int .i64 a0_2] 38 (0, 0)) (by (with_reducible repeat (first | refine blk_drewN ?_ _ | refine blk_drew ?_ | refine blk_alloc ?_ _)); exact BK159.out)) : gb159 ≠ gb164)); have n7_ := Aside0.mk ((by rw [hg]; exact Nat.ne_of_gt (blk_lt (g := gb159) (o := .cells #[.int .i64 a0_0, .int .i64 a0_1, .int .i64 a0_2] 38 (0, 0)) (by (with_reducible repeat (first | refine blk_drewN ?_ _ | refine blk_drew ?_ | refine blk_alloc ?_ _)); exact BK159.out)) : gb164 ≠ gb159)); have n8_ := Aside0.mk ((by rw [hg]; exact Nat.ne_of_lt (blk_lt (g := gb161) (o := .cells #[.string ((rd_T68 l1 x46_2).f0), .int .i64 ((rd_T68 l1 x46_2).f1), .slice (some ad163) ((rd_T68 l1 x46_2).f2).length c160_2] 68 (0, 0)) (by (with_reducible repeat (first | refine blk_drewN ?_ _ | refine blk_drew ?_ | refine blk_alloc ?_ _)); exact BK161.out)) : gb161 ≠ gb164)); have n9_ := Aside0.mk ((by rw [hg]; exact Nat.ne_of_gt (blk_lt (g := gb161) (o := .cells #[.string ((rd_T68 l1 x46_2).f0), .int .i64 ((rd_T68 l1 x46_2).f1), .slice (some ad163) ((rd_T68 l1 x46_2).f2).length c160_2] 68 (0, 0)) (by (with_reducible repeat (first | refine blk_drewN ?_ _ | refine blk_drew ?_ | refine blk_alloc ?_ _)); exact BK161.out)) : gb164 ≠ gb161)); clear BK159; clear BK161; clear HB; have BK159 := n0_; have BK161 := n1_; have HB := n2_; have BK164 := n3_; have GW164 := n4_; have GE164 := n5_; have NB159_164 := n6_; have NB164_159 := n7_; have NB161_164 := n8_; have NB164_161 := n9_; clear n0_ n1_ n2_ n3_ n4_ n5_ n6_ n7_ n8_ n9_; have m0_ := Aside0.mk (blk_below (g := BM) (o := om) (by (with_reducible repeat (first | refine blk_drewN ?_ _ | refine blk_drew ?_ | refine blk_alloc ?_ _ | refine obj_far ?_ GNE159.out _ | refine obj_far ?_ GNE161.out _ | refine obj_far ?_ GNE164.out _)); exact BKM.out) hb); have m1_ := Aside0.mk (show BM ≠ gb164 from Nat.ne_of_lt (by rw [hg]; exact blk_lt (o := om) (by (with_reducible repeat (first | refine blk_drewN ?_ _ | refine blk_drew ?_ | refine blk_alloc ?_ _ | refine obj_far ?_ GNE159.out _ | refine obj_far ?_ GNE161.out _ | refine obj_far ?_ GNE164.out _)); exact BKM.out))); clear BKM; have BKM := m0_; have GNE164 := m1_; clear m0_ m1_; clear hb hbox hg; have hnb102 := NB164_159.out; have hnc102 := NB159_164.out; have hnb103 := NB164_161.out; have hnc103 := NB161_164.out; have hcz104_0 : w101.cell? ⟨gb164, 0, none⟩ = some (.int .i64 0) := (blk_cell BK164.out 0).trans rfl; have hcz104_1 : w101.cell? ⟨gb164, 1, none⟩ = some (.int .i64 0) := (blk_cell BK164.out 1).trans rfl; have hcz104_2 : w101.cell? ⟨gb164, 2, none⟩ = some (.int .i64 0) := (blk_cell BK164.out 2).trans rfl; have hcz104_3 : w101.cell? ⟨gb164, 3, none⟩ = some (.int .i64 0) := (blk_cell BK164.out 3).trans rfl; have hfz104_0 := blk_frozen BK164.out 0; have hfz104_1 := blk_frozen BK164.out 1; have hfz104_2 := blk_frozen BK164.out 2; have hfz104_3 := blk_frozen BK164.out 3; have hnb105 := NB159_161.out; have hnc105 := NB161_159.out; have hcz106_0 : w101.cell? ⟨gb159, 0, none⟩ = some (.int .i64 a0_0) := (blk_cell BK159.out 0).trans rfl; have hcz106_1 : w101.cell? ⟨gb159, 1, none⟩ = some (.int .i64 a0_1) := (blk_cell BK159.out 1).trans rfl; have hcz106_2 : w101.cell? ⟨gb159, 2, none⟩ = some (.int .i64 a0_2) := (blk_cell BK159.out 2).trans rfl; have hfz106_0 := blk_frozen BK159.out 0; have hfz106_1 := blk_frozen BK159.out 1; have hfz106_2 := blk_frozen BK159.out 2) | ((with_reducible refine gate_ (Op.lookup 73 (.tmp 55) (.tmp 57) false) rfl ?_); (try (refine gate_guard (by rfl) ?_; dsimp only)); refine wpList_lookup_seen rfl rfl Tryd.underlying9 Tryd.underlying73 Tryd.underlying4 (by kernel_rfl) BM x5_2 om (by (with_reducible repeat (first | refine blk_drewN ?_ _ | refine blk_drew ?_ | refine blk_alloc ?_ _ | refine obj_far ?_ GNE159.out _ | refine obj_far ?_ GNE161.out _ | refine obj_far ?_ GNE164.out _)); exact BKM.out) HS.out ((rd_T68 l1 x46_2).f0) KS.out rfl rfl ?_; (try rw [c27b0])) | ((with_reducible refine gate_ (Op.mapUpdate 73 (.tmp 82) (.tmp 84) (.const (.bool true))) rfl ?_); refine wpList_update_seen rfl rfl Tryd.underlying9 Tryd.underlying73 Tryd.underlying4 BM x5_2 om (by (with_reducible repeat (first | refine blk_drewN ?_ _ | refine blk_drew ?_ | refine blk_alloc ?_ _ | refine obj_far ?_ GNE159.out _ | refine obj_far ?_ GNE161.out _ | refine obj_far ?_ GNE164.out _)); exact BKM.out) HS.out ((rd_T68 l1 x46_2).f0) KS.out KL.out rfl rfl rfl ?_; intro wm2 hsm2 hgr2; have n0_ := Aside0.mk (pw_below_grown (by repeat (first | (with_reducible first | exact HB.out | apply below_alloc | apply pw_below_drewN | apply below_drew1 | refine below_set ?_ GE159.out | refine below_set ?_ GE161.out | refine below_set ?_ GE164.out) | exact HB.out)) (some BM) (below_size (by repeat (first | (with_reducible first | exact HB.out | apply below_alloc | apply pw_below_drewN | apply below_drew1 | refine below_set ?_ GE159.out | refine below_set ?_ GE161.out | refine below_set ?_ GE164.out) | exact HB.out))) hgr2 (fun k_ hk_ => by cases hk_; exact HBM.out)); (try (have b_ := Aside0.mk (blk_grown (g := gb159) (o := _) (by (with_reducible repeat (first | refine blk_drewN ?_ _ | refine blk_drew ?_ | refine blk_alloc ?_ _ | refine blk_put (g := gb159) ?_ _ _ rfl | refine obj_far ?_ (NB159_161.out) _ | refine obj_far ?_ (NB159_164.out) _)); exact BK159.out) hgr2 (fun e_ => GNE159.out (Option.some.inj e_).symm)); clear BK159; have BK159 := b_; clear b_)); (try (have hzm159_0 : wm2.cell? ⟨gb159, 0, none⟩ = some (.int .i64 a0_0) := (blk_cell BK159.out 0).trans rfl)); (try (have hfm159_0 := blk_frozen BK159.out 0)); (try (have hzm159_1 : wm2.cell? ⟨gb159, 1, none⟩ = some (.int .i64 a0_1) := (blk_cell BK159.out 1).trans rfl)); (try (have hfm159_1 := blk_frozen BK159.out 1)); (try (have hzm159_2 : wm2.cell? ⟨gb159, 2, none⟩ = some (.int .i64 a0_2) := (blk_cell BK159.out 2).trans rfl)); (try (have hfm159_2 := blk_frozen BK159.out 2)); (try (have b_ := Aside0.mk (blk_grown (g := gb161) (o := _) (by (with_reducible repeat (first | refine blk_drewN ?_ _ | refine blk_drew ?_ | refine blk_alloc ?_ _ | refine blk_put (g := gb161) ?_ _ _ rfl | refine obj_far ?_ (NB161_159.out) _ | refine obj_far ?_ (NB161_164.out) _)); exact BK161.out) hgr2 (fun e_ => GNE161.out (Option.some.inj e_).symm)); clear BK161; have BK161 := b_; clear b_)); (try (have hzm161_0 : wm2.cell? ⟨gb161, 0, none⟩ = some (.string ((rd_T68 l1 x46_2).f0)) := (blk_cell BK161.out 0).trans rfl)); (try (have hfm161_0 := blk_frozen BK161.out 0)); (try (have hzm161_1 : wm2.cell? ⟨gb161, 1, none⟩ = some (.int .i64 ((rd_T68 l1 x46_2).f1)) := (blk_cell BK161.out 1).trans rfl)); (try (have hfm161_1 := blk_frozen BK161.out 1)); (try (have hzm161_2 : wm2.cell? ⟨gb161, 2, none⟩ = some ((.slice A160_2 ((rd_T68 l1 x46_2).f2).length c160_2)) := (blk_cell BK161.out 2).trans rfl)); (try (have hfm161_2 := blk_frozen BK161.out 2)); (try (have b_ := Aside0.mk (blk_grown (g := gb164) (o := _) (by (with_reducible repeat (first | refine blk_drewN ?_ _ | refine blk_drew ?_ | refine blk_alloc ?_ _ | refine blk_put (g := gb164) ?_ _ _ rfl | refine obj_far ?_ (NB164_159.out) _ | refine obj_far ?_ (NB164_161.out) _)); exact BK164.out) hgr2 (fun e_ => GNE164.out (Option.some.inj e_).symm)); clear BK164; have BK164 := b_; clear b_)); clear HB; have HB := n0_; clear n0_; clear BKM HS; obtain ⟨om, hom2, hos2⟩ := hsm2; have BKM := Aside0.mk hom2; have HS := Aside0.mk hos2; clear hom2 hos2 hgr2))
                        go_ret
                        exact ⟨by first | rfl | (simp [errW_none, errW_some] <;> rfl) | (simp [*, errW_none, errW_some] <;> rfl), by repeat (first | (with_reducible first | exact HB.out | apply below_alloc | apply pw_below_drewN | apply below_drew1 | refine below_set ?_ GE159.out | refine below_set ?_ GE161.out | refine below_set ?_ GE164.out) | exact HB.out)⟩
                       ·rw [if_neg c100] at H
                        have c100b0 : decide (((rd_T71 ((rd_T68 l1 x46_2).f2) x88_4).f3) < 0) = false := decide_eq_false c100
                        clear c100
                        by_cases c107 : ((rd_T71 ((rd_T68 l1 x46_2).f2) x88_4).f3) > a0_2
                        ·rw [if_pos c107] at H
                         have c107b0 : decide (a0_2 < ((rd_T71 ((rd_T68 l1 x46_2).f2) x88_4).f3)) = true := decide_eq_true c107
                         clear c107
                         obtain rfl := Option.some.inj H
                         have p163 : 0 ≤ (x88_4 : Int) := of_decide_eq_true (by first | (with_reducible assumption) | assumption)
                         have q163 : x88_4 < (((rd_T68 l1 x46_2).f2).length : Int) := of_decide_eq_true (by first | (with_reducible assumption) | assumption)
                         obtain ⟨ad163, e163, hx163_0, hx163_1, hx163_2, hx163_3⟩ := at_T71 HR160_2.out x88_4 p163 q163
                         cases e163
                         replace hx163_0 := (HB.out.cell (World.block_lt_of_cell? w _ hx163_0)).trans hx163_0
                         replace hx163_1 := (HB.out.cell (World.block_lt_of_cell? w _ hx163_1)).trans hx163_1
                         replace hx163_2 := (HB.out.cell (World.block_lt_of_cell? w _ hx163_2)).trans hx163_2
                         replace hx163_3 := (HB.out.cell (World.block_lt_of_cell? w _ hx163_3)).trans hx163_3
                         replace p163 := eq_true p163
                         replace q163 := eq_true q163
                         go_wp2_with (first | ((with_reducible refine gate_dst (N := 9) rfl ?_); (try (refine gate_guard (by rfl) ?_; dsimp only)); refine box_event ?hg (N := 9) ?hd (cs := #[.int .i64 0, .int .i64 0, .int .i64 0, .int .i64 0]) (t := 71) ?hr ?_; (case hd => rfl); (case hg => rfl); (case hr => first | (go_simp; done) | (go_simp; rfl)); intro gb164 hg w108 hbox hb; have n0_ := Aside0.mk (blk_below (g := gb159) (o := .cells #[.int .i64 a0_0, .int .i64 a0_1, .int .i64 a0_2] 38 (0, 0)) (by (with_reducible repeat (first | refine blk_drewN ?_ _ | refine blk_drew ?_ | refine blk_alloc ?_ _)); exact BK159.out) hb); have n1_ := Aside0.mk (blk_below (g := gb161) (o := .cells #[.string ((rd_T68 l1 x46_2).f0), .int .i64 ((rd_T68 l1 x46_2).f1), .slice (some ad163) ((rd_T68 l1 x46_2).f2).length c160_2] 68 (0, 0)) (by (with_reducible repeat (first | refine blk_drewN ?_ _ | refine blk_drew ?_ | refine blk_alloc ?_ _)); exact BK161.out) hb); have n2_ := Aside0.mk (below_step (by repeat (first | (with_reducible first | exact HB.out | apply below_alloc | apply pw_below_drewN | apply below_drew1 | refine below_set ?_ GE159.out | refine below_set ?_ GE161.out) | exact HB.out)) hb); have n3_ := Aside0.mk (hbox); have n4_ := Aside0.mk ((by rw [hg]; exact (below_size (by repeat (first | (with_reducible first | exact HB.out | apply below_alloc | apply pw_below_drewN | apply below_drew1 | refine below_set ?_ GE159.out | refine below_set ?_ GE161.out) | exact HB.out))) : w.heap.size ≤ gb164)); have n5_ := Aside0.mk ((by rw [hg]; exact (below_size (by repeat (first | (with_reducible first | exact HB.out | apply below_alloc | apply pw_below_drewN | apply below_drew1 | refine below_set ?_ GE159.out | refine below_set ?_ GE161.out) | exact HB.out))) : w.heap.size ≤ gb164)); have n6_ := Aside0.mk ((by rw [hg]; exact Nat.ne_of_lt (blk_lt (g := gb159) (o := .cells #[.int .i64 a0_0, .int .i64 a0_1, .int .i64 a0_2] 38 (0, 0)) (by (with_reducible repeat (first | refine blk_drewN ?_ _ | refine blk_drew ?_ | refine blk_alloc ?_ _)); exact BK159.out)) : gb159 ≠ gb164)); have n7_ := Aside0.mk ((by rw [hg]; exact Nat.ne_of_gt (blk_lt (g := gb159) (o := .cells #[.int .i64 a0_0, .int .i64 a0_1, .int .i64 a0_2] 38 (0, 0)) (by (with_reducible repeat (first | refine blk_drewN ?_ _ | refine blk_drew ?_ | refine blk_alloc ?_ _)); exact BK159.out)) : gb164 ≠ gb159)); have n8_ := Aside0.mk ((by rw [hg]; exact Nat.ne_of_lt (blk_lt (g := gb161) (o := .cells #[.string ((rd_T68 l1 x46_2).f0), .int .i64 ((rd_T68 l1 x46_2).f1), .slice (some ad163) ((rd_T68 l1 x46_2).f2).length c160_2] 68 (0, 0)) (by (with_reducible repeat (first | refine blk_drewN ?_ _ | refine blk_drew ?_ | refine blk_alloc ?_ _)); exact BK161.out)) : gb161 ≠ gb164)); have n9_ := Aside0.mk ((by rw [hg]; exact Nat.ne_of_gt (blk_lt (g := gb161) (o := .cells #[.string ((rd_T68 l1 x46_2).f0), .int .i64 ((rd_T68 l1 x46_2).f1), .slice (some ad163) ((rd_T68 l1 x46_2).f2).length c160_2] 68 (0, 0)) (by (with_reducible repeat (first | refine blk_drewN ?_ _ | refine blk_drew ?_ | refine blk_alloc ?_ _)); exact BK161.out)) : gb164 ≠ gb161)); clear BK159; clear BK161; clear HB; have BK159 := n0_; have BK161 := n1_; have HB := n2_; have BK164 := n3_; have GW164 := n4_; have GE164 := n5_; have NB159_164 := n6_; have NB164_159 := n7_; have NB161_164 := n8_; have NB164_161 := n9_; clear n0_ n1_ n2_ n3_ n4_ n5_ n6_ n7_ n8_ n9_; have m0_ := Aside0.mk (blk_below (g := BM) (o := om) (by (with_reducible repeat (first | refine blk_drewN ?_ _ | refine blk_drew ?_ | refine blk_alloc ?_ _ | refine obj_far ?_ GNE159.out _ | refine obj_far ?_ GNE161.out _ | refine obj_far ?_ GNE164.out _)); exact BKM.out) hb); have m1_ := Aside0.mk (show BM ≠ gb164 from Nat.ne_of_lt (by rw [hg]; exact blk_lt (o := om) (by (with_reducible repeat (first | refine blk_drewN ?_ _ | refine blk_drew ?_ | refine blk_alloc ?_ _ | refine obj_far ?_ GNE159.out _ | refine obj_far ?_ GNE161.out _ | refine obj_far ?_ GNE164.out _)); exact BKM.out))); clear BKM; have BKM := m0_; have GNE164 := m1_; clear m0_ m1_; clear hb hbox hg; have hnb109 := NB164_159.out; have hnc109 := NB159_164.out; have hnb110 := NB164_161.out; have hnc110 := NB161_164.out; have hcz111_0 : w108.cell? ⟨gb164, 0, none⟩ = some (.int .i64 0) := (blk_cell BK164.out 0).trans rfl; have hcz111_1 : w108.cell? ⟨gb164, 1, none⟩ = some (.int .i64 0) := (blk_cell BK164.out 1).trans rfl; have hcz111_2 : w108.cell? ⟨gb164, 2, none⟩ = some (.int .i64 0) := (blk_cell BK164.out 2).trans rfl; have hcz111_3 : w108.cell? ⟨gb164, 3, none⟩ = some (.int .i64 0) := (blk_cell BK164.out 3).trans rfl; have hfz111_0 := blk_frozen BK164.out 0; have hfz111_1 := blk_frozen BK164.out 1; have hfz111_2 := blk_frozen BK164.out 2; have hfz111_3 := blk_frozen BK164.out 3; have hnb112 := NB159_161.out; have hnc112 := NB161_159.out; have hcz113_0 : w108.cell? ⟨gb159, 0, none⟩ = some (.int .i64 a0_0) := (blk_cell BK159.out 0).trans rfl; have hcz113_1 : w108.cell? ⟨gb159, 1, none⟩ = some (.int .i64 a0_1) := (blk_cell BK159.out 1).trans rfl; have hcz113_2 : w108.cell? ⟨gb159, 2, none⟩ = some (.int .i64 a0_2) := (blk_cell BK159.out 2).trans rfl; have hfz113_0 := blk_frozen BK159.out 0; have hfz113_1 := blk_frozen BK159.out 1; have hfz113_2 := blk_frozen BK159.out 2) | ((with_reducible refine gate_ (Op.lookup 73 (.tmp 55) (.tmp 57) false) rfl ?_); (try (refine gate_guard (by rfl) ?_; dsimp only)); refine wpList_lookup_seen rfl rfl Tryd.underlying9 Tryd.underlying73 Tryd.underlying4 (by kernel_rfl) BM x5_2 om (by (with_reducible repeat (first | refine blk_drewN ?_ _ | refine blk_drew ?_ | refine blk_alloc ?_ _ | refine obj_far ?_ GNE159.out _ | refine obj_far ?_ GNE161.out _ | refine obj_far ?_ GNE164.out _)); exact BKM.out) HS.out ((rd_T68 l1 x46_2).f0) KS.out rfl rfl ?_; (try rw [c27b0])) | ((with_reducible refine gate_ (Op.mapUpdate 73 (.tmp 82) (.tmp 84) (.const (.bool true))) rfl ?_); refine wpList_update_seen rfl rfl Tryd.underlying9 Tryd.underlying73 Tryd.underlying4 BM x5_2 om (by (with_reducible repeat (first | refine blk_drewN ?_ _ | refine blk_drew ?_ | refine blk_alloc ?_ _ | refine obj_far ?_ GNE159.out _ | refine obj_far ?_ GNE161.out _ | refine obj_far ?_ GNE164.out _)); exact BKM.out) HS.out ((rd_T68 l1 x46_2).f0) KS.out KL.out rfl rfl rfl ?_; intro wm2 hsm2 hgr2; have n0_ := Aside0.mk (pw_below_grown (by repeat (first | (with_reducible first | exact HB.out | apply below_alloc | apply pw_below_drewN | apply below_drew1 | refine below_set ?_ GE159.out | refine below_set ?_ GE161.out | refine below_set ?_ GE164.out) | exact HB.out)) (some BM) (below_size (by repeat (first | (with_reducible first | exact HB.out | apply below_alloc | apply pw_below_drewN | apply below_drew1 | refine below_set ?_ GE159.out | refine below_set ?_ GE161.out | refine below_set ?_ GE164.out) | exact HB.out))) hgr2 (fun k_ hk_ => by cases hk_; exact HBM.out)); (try (have b_ := Aside0.mk (blk_grown (g := gb159) (o := _) (by (with_reducible repeat (first | refine blk_drewN ?_ _ | refine blk_drew ?_ | refine blk_alloc ?_ _ | refine blk_put (g := gb159) ?_ _ _ rfl | refine obj_far ?_ (NB159_161.out) _ | refine obj_far ?_ (NB159_164.out) _)); exact BK159.out) hgr2 (fun e_ => GNE159.out (Option.some.inj e_).symm)); clear BK159; have BK159 := b_; clear b_)); (try (have hzm159_0 : wm2.cell? ⟨gb159, 0, none⟩ = some (.int .i64 a0_0) := (blk_cell BK159.out 0).trans rfl)); (try (have hfm159_0 := blk_frozen BK159.out 0)); (try (have hzm159_1 : wm2.cell? ⟨gb159, 1, none⟩ = some (.int .i64 a0_1) := (blk_cell BK159.out 1).trans rfl)); (try (have hfm159_1 := blk_frozen BK159.out 1)); (try (have hzm159_2 : wm2.cell? ⟨gb159, 2, none⟩ = some (.int .i64 a0_2) := (blk_cell BK159.out 2).trans rfl)); (try (have hfm159_2 := blk_frozen BK159.out 2)); (try (have b_ := Aside0.mk (blk_grown (g := gb161) (o := _) (by (with_reducible repeat (first | refine blk_drewN ?_ _ | refine blk_drew ?_ | refine blk_alloc ?_ _ | refine blk_put (g := gb161) ?_ _ _ rfl | refine obj_far ?_ (NB161_159.out) _ | refine obj_far ?_ (NB161_164.out) _)); exact BK161.out) hgr2 (fun e_ => GNE161.out (Option.some.inj e_).symm)); clear BK161; have BK161 := b_; clear b_)); (try (have hzm161_0 : wm2.cell? ⟨gb161, 0, none⟩ = some (.string ((rd_T68 l1 x46_2).f0)) := (blk_cell BK161.out 0).trans rfl)); (try (have hfm161_0 := blk_frozen BK161.out 0)); (try (have hzm161_1 : wm2.cell? ⟨gb161, 1, none⟩ = some (.int .i64 ((rd_T68 l1 x46_2).f1)) := (blk_cell BK161.out 1).trans rfl)); (try (have hfm161_1 := blk_frozen BK161.out 1)); (try (have hzm161_2 : wm2.cell? ⟨gb161, 2, none⟩ = some ((.slice A160_2 ((rd_T68 l1 x46_2).f2).length c160_2)) := (blk_cell BK161.out 2).trans rfl)); (try (have hfm161_2 := blk_frozen BK161.out 2)); (try (have b_ := Aside0.mk (blk_grown (g := gb164) (o := _) (by (with_reducible repeat (first | refine blk_drewN ?_ _ | refine blk_drew ?_ | refine blk_alloc ?_ _ | refine blk_put (g := gb164) ?_ _ _ rfl | refine obj_far ?_ (NB164_159.out) _ | refine obj_far ?_ (NB164_161.out) _)); exact BK164.out) hgr2 (fun e_ => GNE164.out (Option.some.inj e_).symm)); clear BK164; have BK164 := b_; clear b_)); clear HB; have HB := n0_; clear n0_; clear BKM HS; obtain ⟨om, hom2, hos2⟩ := hsm2; have BKM := Aside0.mk hom2; have HS := Aside0.mk hos2; clear hom2 hos2 hgr2))
                         go_ret
                         exact ⟨by first | rfl | (simp [errW_none, errW_some] <;> rfl) | (simp [*, errW_none, errW_some] <;> rfl), by repeat (first | (with_reducible first | exact HB.out | apply below_alloc | apply pw_below_drewN | apply below_drew1 | refine below_set ?_ GE159.out | refine below_set ?_ GE161.out | refine below_set ?_ GE164.out) | exact HB.out)⟩
                        ·rw [if_neg c107] at H
                         have c107b0 : decide (a0_2 < ((rd_T71 ((rd_T68 l1 x46_2).f2) x88_4).f3)) = false := decide_eq_false c107
                         clear c107
                         have H' := Aside0.mk H
                         clear H
                         have p163 : 0 ≤ (x88_4 : Int) := of_decide_eq_true (by first | (with_reducible assumption) | assumption)
                         have q163 : x88_4 < (((rd_T68 l1 x46_2).f2).length : Int) := of_decide_eq_true (by first | (with_reducible assumption) | assumption)
                         obtain ⟨ad163, e163, hx163_0, hx163_1, hx163_2, hx163_3⟩ := at_T71 HR160_2.out x88_4 p163 q163
                         cases e163
                         replace hx163_0 := (HB.out.cell (World.block_lt_of_cell? w _ hx163_0)).trans hx163_0
                         replace hx163_1 := (HB.out.cell (World.block_lt_of_cell? w _ hx163_1)).trans hx163_1
                         replace hx163_2 := (HB.out.cell (World.block_lt_of_cell? w _ hx163_2)).trans hx163_2
                         replace hx163_3 := (HB.out.cell (World.block_lt_of_cell? w _ hx163_3)).trans hx163_3
                         replace p163 := eq_true p163
                         replace q163 := eq_true q163
                         go_wp2_with (first | ((with_reducible refine gate_dst (N := 9) rfl ?_); (try (refine gate_guard (by rfl) ?_; dsimp only)); refine box_event ?hg (N := 9) ?hd (cs := #[.int .i64 0, .int .i64 0, .int .i64 0, .int .i64 0]) (t := 71) ?hr ?_; (case hd => rfl); (case hg => rfl); (case hr => first | (go_simp; done) | (go_simp; rfl)); intro gb164 hg w114 hbox hb; have n0_ := Aside0.mk (blk_below (g := gb159) (o := .cells #[.int .i64 a0_0, .int .i64 a0_1, .int .i64 a0_2] 38 (0, 0)) (by (with_reducible repeat (first | refine blk_drewN ?_ _ | refine blk_drew ?_ | refine blk_alloc ?_ _)); exact BK159.out) hb); have n1_ := Aside0.mk (blk_below (g := gb161) (o := .cells #[.string ((rd_T68 l1 x46_2).f0), .int .i64 ((rd_T68 l1 x46_2).f1), .slice (some ad163) ((rd_T68 l1 x46_2).f2).length c160_2] 68 (0, 0)) (by (with_reducible repeat (first | refine blk_drewN ?_ _ | refine blk_drew ?_ | refine blk_alloc ?_ _)); exact BK161.out) hb); have n2_ := Aside0.mk (below_step (by repeat (first | (with_reducible first | exact HB.out | apply below_alloc | apply pw_below_drewN | apply below_drew1 | refine below_set ?_ GE159.out | refine below_set ?_ GE161.out) | exact HB.out)) hb); have n3_ := Aside0.mk (hbox); have n4_ := Aside0.mk ((by rw [hg]; exact (below_size (by repeat (first | (with_reducible first | exact HB.out | apply below_alloc | apply pw_below_drewN | apply below_drew1 | refine below_set ?_ GE159.out | refine below_set ?_ GE161.out) | exact HB.out))) : w.heap.size ≤ gb164)); have n5_ := Aside0.mk ((by rw [hg]; exact (below_size (by repeat (first | (with_reducible first | exact HB.out | apply below_alloc | apply pw_below_drewN | apply below_drew1 | refine below_set ?_ GE159.out | refine below_set ?_ GE161.out) | exact HB.out))) : w.heap.size ≤ gb164)); have n6_ := Aside0.mk ((by rw [hg]; exact Nat.ne_of_lt (blk_lt (g := gb159) (o := .cells #[.int .i64 a0_0, .int .i64 a0_1, .int .i64 a0_2] 38 (0, 0)) (by (with_reducible repeat (first | refine blk_drewN ?_ _ | refine blk_drew ?_ | refine blk_alloc ?_ _)); exact BK159.out)) : gb159 ≠ gb164)); have n7_ := Aside0.mk ((by rw [hg]; exact Nat.ne_of_gt (blk_lt (g := gb159) (o := .cells #[.int .i64 a0_0, .int .i64 a0_1, .int .i64 a0_2] 38 (0, 0)) (by (with_reducible repeat (first | refine blk_drewN ?_ _ | refine blk_drew ?_ | refine blk_alloc ?_ _)); exact BK159.out)) : gb164 ≠ gb159)); have n8_ := Aside0.mk ((by rw [hg]; exact Nat.ne_of_lt (blk_lt (g := gb161) (o := .cells #[.string ((rd_T68 l1 x46_2).f0), .int .i64 ((rd_T68 l1 x46_2).f1), .slice (some ad163) ((rd_T68 l1 x46_2).f2).length c160_2] 68 (0, 0)) (by (with_reducible repeat (first | refine blk_drewN ?_ _ | refine blk_drew ?_ | refine blk_alloc ?_ _)); exact BK161.out)) : gb161 ≠ gb164)); have n9_ := Aside0.mk ((by rw [hg]; exact Nat.ne_of_gt (blk_lt (g := gb161) (o := .cells #[.string ((rd_T68 l1 x46_2).f0), .int .i64 ((rd_T68 l1 x46_2).f1), .slice (some ad163) ((rd_T68 l1 x46_2).f2).length c160_2] 68 (0, 0)) (by (with_reducible repeat (first | refine blk_drewN ?_ _ | refine blk_drew ?_ | refine blk_alloc ?_ _)); exact BK161.out)) : gb164 ≠ gb161)); clear BK159; clear BK161; clear HB; have BK159 := n0_; have BK161 := n1_; have HB := n2_; have BK164 := n3_; have GW164 := n4_; have GE164 := n5_; have NB159_164 := n6_; have NB164_159 := n7_; have NB161_164 := n8_; have NB164_161 := n9_; clear n0_ n1_ n2_ n3_ n4_ n5_ n6_ n7_ n8_ n9_; have m0_ := Aside0.mk (blk_below (g := BM) (o := om) (by (with_reducible repeat (first | refine blk_drewN ?_ _ | refine blk_drew ?_ | refine blk_alloc ?_ _ | refine obj_far ?_ GNE159.out _ | refine obj_far ?_ GNE161.out _ | refine obj_far ?_ GNE164.out _)); exact BKM.out) hb); have m1_ := Aside0.mk (show BM ≠ gb164 from Nat.ne_of_lt (by rw [hg]; exact blk_lt (o := om) (by (with_reducible repeat (first | refine blk_drewN ?_ _ | refine blk_drew ?_ | refine blk_alloc ?_ _ | refine obj_far ?_ GNE159.out _ | refine obj_far ?_ GNE161.out _ | refine obj_far ?_ GNE164.out _)); exact BKM.out))); clear BKM; have BKM := m0_; have GNE164 := m1_; clear m0_ m1_; clear hb hbox hg; have hnb115 := NB164_159.out; have hnc115 := NB159_164.out; have hnb116 := NB164_161.out; have hnc116 := NB161_164.out; have hcz117_0 : w114.cell? ⟨gb164, 0, none⟩ = some (.int .i64 0) := (blk_cell BK164.out 0).trans rfl; have hcz117_1 : w114.cell? ⟨gb164, 1, none⟩ = some (.int .i64 0) := (blk_cell BK164.out 1).trans rfl; have hcz117_2 : w114.cell? ⟨gb164, 2, none⟩ = some (.int .i64 0) := (blk_cell BK164.out 2).trans rfl; have hcz117_3 : w114.cell? ⟨gb164, 3, none⟩ = some (.int .i64 0) := (blk_cell BK164.out 3).trans rfl; have hfz117_0 := blk_frozen BK164.out 0; have hfz117_1 := blk_frozen BK164.out 1; have hfz117_2 := blk_frozen BK164.out 2; have hfz117_3 := blk_frozen BK164.out 3; have hnb118 := NB159_161.out; have hnc118 := NB161_159.out; have hcz119_0 : w114.cell? ⟨gb159, 0, none⟩ = some (.int .i64 a0_0) := (blk_cell BK159.out 0).trans rfl; have hcz119_1 : w114.cell? ⟨gb159, 1, none⟩ = some (.int .i64 a0_1) := (blk_cell BK159.out 1).trans rfl; have hcz119_2 : w114.cell? ⟨gb159, 2, none⟩ = some (.int .i64 a0_2) := (blk_cell BK159.out 2).trans rfl; have hfz119_0 := blk_frozen BK159.out 0; have hfz119_1 := blk_frozen BK159.out 1; have hfz119_2 := blk_frozen BK159.out 2) | ((with_reducible refine gate_ (Op.lookup 73 (.tmp 55) (.tmp 57) false) rfl ?_); (try (refine gate_guard (by rfl) ?_; dsimp only)); refine wpList_lookup_seen rfl rfl Tryd.underlying9 Tryd.underlying73 Tryd.underlying4 (by kernel_rfl) BM x5_2 om (by (with_reducible repeat (first | refine blk_drewN ?_ _ | refine blk_drew ?_ | refine blk_alloc ?_ _ | refine obj_far ?_ GNE159.out _ | refine obj_far ?_ GNE161.out _ | refine obj_far ?_ GNE164.out _)); exact BKM.out) HS.out ((rd_T68 l1 x46_2).f0) KS.out rfl rfl ?_; (try rw [c27b0])) | ((with_reducible refine gate_ (Op.mapUpdate 73 (.tmp 82) (.tmp 84) (.const (.bool true))) rfl ?_); refine wpList_update_seen rfl rfl Tryd.underlying9 Tryd.underlying73 Tryd.underlying4 BM x5_2 om (by (with_reducible repeat (first | refine blk_drewN ?_ _ | refine blk_drew ?_ | refine blk_alloc ?_ _ | refine obj_far ?_ GNE159.out _ | refine obj_far ?_ GNE161.out _ | refine obj_far ?_ GNE164.out _)); exact BKM.out) HS.out ((rd_T68 l1 x46_2).f0) KS.out KL.out rfl rfl rfl ?_; intro wm2 hsm2 hgr2; have n0_ := Aside0.mk (pw_below_grown (by repeat (first | (with_reducible first | exact HB.out | apply below_alloc | apply pw_below_drewN | apply below_drew1 | refine below_set ?_ GE159.out | refine below_set ?_ GE161.out | refine below_set ?_ GE164.out) | exact HB.out)) (some BM) (below_size (by repeat (first | (with_reducible first | exact HB.out | apply below_alloc | apply pw_below_drewN | apply below_drew1 | refine below_set ?_ GE159.out | refine below_set ?_ GE161.out | refine below_set ?_ GE164.out) | exact HB.out))) hgr2 (fun k_ hk_ => by cases hk_; exact HBM.out)); (try (have b_ := Aside0.mk (blk_grown (g := gb159) (o := _) (by (with_reducible repeat (first | refine blk_drewN ?_ _ | refine blk_drew ?_ | refine blk_alloc ?_ _ | refine blk_put (g := gb159) ?_ _ _ rfl | refine obj_far ?_ (NB159_161.out) _ | refine obj_far ?_ (NB159_164.out) _)); exact BK159.out) hgr2 (fun e_ => GNE159.out (Option.some.inj e_).symm)); clear BK159; have BK159 := b_; clear b_)); (try (have hzm159_0 : wm2.cell? ⟨gb159, 0, none⟩ = some (.int .i64 a0_0) := (blk_cell BK159.out 0).trans rfl)); (try (have hfm159_0 := blk_frozen BK159.out 0)); (try (have hzm159_1 : wm2.cell? ⟨gb159, 1, none⟩ = some (.int .i64 a0_1) := (blk_cell BK159.out 1).trans rfl)); (try (have hfm159_1 := blk_frozen BK159.out 1)); (try (have hzm159_2 : wm2.cell? ⟨gb159, 2, none⟩ = some (.int .i64 a0_2) := (blk_cell BK159.out 2).trans rfl)); (try (have hfm159_2 := blk_frozen BK159.out 2)); (try (have b_ := Aside0.mk (blk_grown (g := gb161) (o := _) (by (with_reducible repeat (first | refine blk_drewN ?_ _ | refine blk_drew ?_ | refine blk_alloc ?_ _ | refine blk_put (g := gb161) ?_ _ _ rfl | refine obj_far ?_ (NB161_159.out) _ | refine obj_far ?_ (NB161_164.out) _)); exact BK161.out) hgr2 (fun e_ => GNE161.out (Option.some.inj e_).symm)); clear BK161; have BK161 := b_; clear b_)); (try (have hzm161_0 : wm2.cell? ⟨gb161, 0, none⟩ = some (.string ((rd_T68 l1 x46_2).f0)) := (blk_cell BK161.out 0).trans rfl)); (try (have hfm161_0 := blk_frozen BK161.out 0)); (try (have hzm161_1 : wm2.cell? ⟨gb161, 1, none⟩ = some (.int .i64 ((rd_T68 l1 x46_2).f1)) := (blk_cell BK161.out 1).trans rfl)); (try (have hfm161_1 := blk_frozen BK161.out 1)); (try (have hzm161_2 : wm2.cell? ⟨gb161, 2, none⟩ = some ((.slice A160_2 ((rd_T68 l1 x46_2).f2).length c160_2)) := (blk_cell BK161.out 2).trans rfl)); (try (have hfm161_2 := blk_frozen BK161.out 2)); (try (have b_ := Aside0.mk (blk_grown (g := gb164) (o := _) (by (with_reducible repeat (first | refine blk_drewN ?_ _ | refine blk_drew ?_ | refine blk_alloc ?_ _ | refine blk_put (g := gb164) ?_ _ _ rfl | refine obj_far ?_ (NB164_159.out) _ | refine obj_far ?_ (NB164_161.out) _)); exact BK164.out) hgr2 (fun e_ => GNE164.out (Option.some.inj e_).symm)); clear BK164; have BK164 := b_; clear b_)); clear HB; have HB := n0_; clear n0_; clear BKM HS; obtain ⟨om, hom2, hos2⟩ := hsm2; have BKM := Aside0.mk hom2; have HS := Aside0.mk hos2; clear hom2 hos2 hgr2))
                         go_roundg k4
                         case measure => have := HJ2.out; have := HK2.out; have := HJ20.out; have := HK4.out; omega
                         case rel => exact ⟨(wrap64 (x88_4 + 1)), (by first | rfl | (simp; done) | (simp [*]; done)), H', ⟨by have := HJ2.out; have := HK2.out; have := HJ20.out; have := HK4.out; omega⟩, ⟨by (with_reducible repeat (first | refine blk_drewN ?_ _ | refine blk_drew ?_ | refine blk_alloc ?_ _)); refine blk_far ?_ NB159_164.out _; (with_reducible repeat (first | refine blk_drewN ?_ _ | refine blk_drew ?_ | refine blk_alloc ?_ _)); refine blk_far ?_ NB159_164.out _; (with_reducible repeat (first | refine blk_drewN ?_ _ | refine blk_drew ?_ | refine blk_alloc ?_ _)); refine blk_far ?_ NB159_164.out _; (with_reducible repeat (first | refine blk_drewN ?_ _ | refine blk_drew ?_ | refine blk_alloc ?_ _)); refine blk_far ?_ NB159_164.out _; (with_reducible repeat (first | refine blk_drewN ?_ _ | refine blk_drew ?_ | refine blk_alloc ?_ _)); exact BK159.out⟩, ⟨by (with_reducible repeat (first | refine blk_drewN ?_ _ | refine blk_drew ?_ | refine blk_alloc ?_ _)); refine blk_far ?_ NB161_164.out _; (with_reducible repeat (first | refine blk_drewN ?_ _ | refine blk_drew ?_ | refine blk_alloc ?_ _)); refine blk_far ?_ NB161_164.out _; (with_reducible repeat (first | refine blk_drewN ?_ _ | refine blk_drew ?_ | refine blk_alloc ?_ _)); refine blk_far ?_ NB161_164.out _; (with_reducible repeat (first | refine blk_drewN ?_ _ | refine blk_drew ?_ | refine blk_alloc ?_ _)); refine blk_far ?_ NB161_164.out _; (with_reducible repeat (first | refine blk_drewN ?_ _ | refine blk_drew ?_ | refine blk_alloc ?_ _)); exact BK161.out⟩, ⟨⟨_, (by (with_reducible repeat (first | refine blk_drewN ?_ _ | refine blk_drew ?_ | refine blk_alloc ?_ _ | refine obj_far ?_ GNE159.out _ | refine obj_far ?_ GNE161.out _ | refine obj_far ?_ GNE164.out _)); exact BKM.out), HS.out⟩⟩, ⟨by repeat (first | (with_reducible first | exact HB.out | apply below_alloc | apply pw_below_drewN | apply below_drew1 | refine below_set ?_ GE159.out | refine below_set ?_ GE161.out | refine below_set ?_ GE164.out) | exact HB.out)⟩⟩
                ·rw [if_neg c59] at H
                 exact absurd H (by simp)
               ·rw [if_neg c58] at H
                exact absurd H (by simp)
              ·rw [if_neg c57] at H
               have c57b0 : decide (x88_4 < (((rd_T68 l1 x46_2).f2).length : Int)) = false := decide_eq_false c57
               clear c57
               have H' := Aside0.mk H
               clear H
               go_wp2
               go_roundg k4
               case measure => have := HJ2.out; have := HK2.out; have := HJ20.out; have := HK4.out; omega
               case rel => exact ⟨((x5_2 ++ [((rd_T68 l1 x46_2).f0)])), (wrap64 (x46_2 + 1)), ⟨⟨_, (by (with_reducible repeat (first | refine blk_drewN ?_ _ | refine blk_drew ?_ | refine blk_alloc ?_ _ | refine obj_far ?_ GNE159.out _ | refine obj_far ?_ GNE161.out _ | refine obj_far ?_ GNE164.out _)); exact BKM.out), HS.out⟩⟩, (by first | rfl | (simp; done) | (simp [*]; done)), H', ⟨by have := HJ2.out; have := HK2.out; have := HJ20.out; have := HK4.out; omega⟩, ⟨by (with_reducible repeat (first | refine blk_drewN ?_ _ | refine blk_drew ?_ | refine blk_alloc ?_ _)); exact BK159.out⟩, ⟨by repeat (first | (with_reducible first | exact HB.out | apply below_alloc | apply pw_below_drewN | apply below_drew1 | refine below_set ?_ GE159.out | refine below_set ?_ GE161.out) | exact HB.out)⟩⟩
        ·rw [if_neg c20] at H
         exact absurd H (by simp)
       ·rw [if_neg c19] at H
        exact absurd H (by simp)
      ·rw [if_neg c18] at H
       have c18b0 : decide (x46_2 < (l1.length : Int)) = false := decide_eq_false c18
       clear c18
       obtain rfl := Option.some.inj H
       go_wp2
       go_ret
       exact ⟨by first | rfl | (simp [errW_none, errW_some] <;> rfl) | (simp [*, errW_none, errW_some] <;> rfl), by repeat (first | (with_reducible first | exact HB.out | apply below_alloc | apply pw_below_drewN | apply below_drew1 | refine below_set ?_ GE159.out) | exact HB.out)⟩

end Go.Proofs.YthmeijbiemkbaaaDoor.PFnExactShopOK
