/- Written for this claim by a program of this session: the functions that the law reaches, each with its contract. -/
import Derived.Test.YthmeijbiemkbaaaDoorPFnExactBoundx0
import Derived.Test.YthmeijbiemkbaaaDoorSeenPair
import Derived.Test.YthmeijbiemkbaaaDoorPFnExactBoundx9
namespace Go.Proofs.YthmeijbiemkbaaaDoor.PFnExactBound
open Go.RowKit Go.Proofs.YthmeijbiemkbaaaDoorW.PrintWords Go.Proofs.YthmeijbiemkbaaaDoorW.PrintLast Go.Proofs.YthmeijbiemkbaaaDoorW.PrintMore Go.Proofs.YthmeijbiemkbaaaDoor.Seen Go.Proofs.YthmeijbiemkbaaaDoor.SeenPair
attribute [local go_sem] i64_w max2_int min2_int max_two min_two max_three min_three max_four min_four   -- for this text's walks alone
set_option linter.unusedVariables false
set_option linter.unusedSimpArgs false

/-! ### impl_Bound: function 20 -/
theorem impl_Bound.key : PairKey Tryd.prog 77 := pairKey (by kernel_rfl) (Nat.le_of_ble_eq_true (by kernel_rfl)) (Nat.le_of_ble_eq_true (by kernel_rfl)) (by kernel_rfl) Tryd.underlying77 Tryd.underlying3 (by kernel_rfl) (by kernel_rfl)
mutual
def impl_Bound.l0 : Nat → Int → List Int → List (Int × Int) → List (S68) → Int → Int → Int → Int → Int → Option (Int × Int)
 | 0, _, _, _, _, _, _, _, _, _ => none
 | k + 1, x6, x7, x8, x28, x29, x30, x196000, x196001, x196002 => if x30 < x29 then (if 0 ≤ x30 then (if x30 < (x28.length : Int) then (impl_Bound.l1 k x6 x7 x8 0 x28 x29 x30 ((rd_T68 x28 x30).f2) (((rd_T68 x28 x30).f2).length : Int) 0 x196000 x196001 x196002) else (none)) else (none)) else (impl_Bound.l2 k x6 x7 (x7.length : Int) 0)
def impl_Bound.l1 : Nat → Int → List Int → List (Int × Int) → Int → List (S68) → Int → Int → List (S71) → Int → Int → Int → Int → Int → Option (Int × Int)
 | 0, _, _, _, _, _, _, _, _, _, _, _, _, _ => none
 | k + 1, x6, x7, x8, x11, x28, x29, x30, x35, x36, x37, x196000, x196001, x196002 => if x37 < x36 then (if 0 ≤ x37 then (if x37 < (x35.length : Int) then (if 0 ≤ ((rd_T71 x35 x37).f0) then (if ((rd_T71 x35 x37).f0) < (x7.length : Int) then ((some (x7.set (((rd_T71 x35 x37).f0) : Int).toNat (wrap64 ((rd x7 ((rd_T71 x35 x37).f0)) + ((rd_T71 x35 x37).f1))) : List Int)).bind fun y205 => (if Small ((rd_T71 x35 x37).f0) ((rd_T71 x35 x37).f2) then (if x8.length < 1000 then (if inP x8 ((rd_T71 x35 x37).f0) ((rd_T71 x35 x37).f2) = true then (impl_Bound.l1 k x6 y205 x8 (wrap64 (x11 + ((rd_T71 x35 x37).f1))) x28 x29 x30 x35 x36 (wrap64 (x37 + 1)) x196000 x196001 x196002) else (impl_Bound.l1 k x6 (y205.set (((rd_T71 x35 x37).f0) : Int).toNat (wrap64 ((rd y205 ((rd_T71 x35 x37).f0)) + x196001))) (x8 ++ [(((rd_T71 x35 x37).f0), ((rd_T71 x35 x37).f2))]) (wrap64 (x11 + ((rd_T71 x35 x37).f1))) x28 x29 x30 x35 x36 (wrap64 (x37 + 1)) x196000 x196001 x196002)) else (none)) else (none))) else (none)) else (none)) else (none)) else (none)) else (impl_Bound.l0 k (mx x6 x11) x7 x8 x28 x29 (wrap64 (x30 + 1)) x196000 x196001 x196002)
def impl_Bound.l2 : Nat → Int → List Int → Int → Int → Option (Int × Int)
 | 0, _, _, _, _ => none
 | k + 1, x6, x79, x80, x81 => if x81 < x80 then (if 0 ≤ x81 then (if x81 < (x79.length : Int) then (impl_Bound.l2 k (mx x6 (rd x79 x81)) x79 x80 (wrap64 (x81 + 1))) else (none)) else (none)) else (some (x6, 0))
end
def impl_Bound.f (k : Nat) (a0_0 : Int) (a0_1 : Int) (a0_2 : Int) (l1 : List (S68)) : Option (Int × Int) := if (l1.length : Int) > 4096 then (some (0, 2)) else ((impl_ShopOK.f k a0_0 a0_1 a0_2 l1).bind fun t196 => (if t196 = true then (if 0 ≤ a0_0 then (if (a0_0 : Int).toNat ≤ 35184372088832 then (impl_Bound.l0 k 0 (List.replicate (a0_0 : Int).toNat 0) [] l1 (l1.length : Int) 0 a0_0 a0_1 a0_2) else (none)) else (none)) else (some (0, 1))))
theorem impl_Bound.mono_l : ∀ k, (∀ y0 y1 y2 y3 y4 y5 y6 y7 y8, LeO (impl_Bound.l0 k y0 y1 y2 y3 y4 y5 y6 y7 y8) (impl_Bound.l0 (k + 1) y0 y1 y2 y3 y4 y5 y6 y7 y8)) ∧ (∀ y0 y1 y2 y3 y4 y5 y6 y7 y8 y9 y10 y11 y12, LeO (impl_Bound.l1 k y0 y1 y2 y3 y4 y5 y6 y7 y8 y9 y10 y11 y12) (impl_Bound.l1 (k + 1) y0 y1 y2 y3 y4 y5 y6 y7 y8 y9 y10 y11 y12)) ∧ (∀ y0 y1 y2 y3, LeO (impl_Bound.l2 k y0 y1 y2 y3) (impl_Bound.l2 (k + 1) y0 y1 y2 y3))
 | 0 => ⟨fun _ _ _ _ _ _ _ _ _ r h => by simp [impl_Bound.l0] at h, fun _ _ _ _ _ _ _ _ _ _ _ _ _ r h => by simp [impl_Bound.l1] at h, fun _ _ _ _ r h => by simp [impl_Bound.l2] at h⟩
 | k + 1 => by
  obtain ⟨ih0, ih1, ih2⟩ := impl_Bound.mono_l k
  refine ⟨?_, ?_, ?_⟩
  ·intro y0 y1 y2 y3 y4 y5 y6 y7 y8
   unfold impl_Bound.l0
   repeat' first
   | (with_reducible exact ih0 _ _ _ _ _ _ _ _ _)
   | (with_reducible exact ih1 _ _ _ _ _ _ _ _ _ _ _ _ _)
   | (with_reducible exact ih2 _ _ _ _)
   | (with_reducible exact impl_ShopOK.mono _ _ _ _ _)
   | (with_reducible exact LeO.refl _)
   | (with_reducible exact LeO.none _)
   | (with_reducible refine LeO.ite ?_ ?_)
   | (with_reducible refine LeO.bind ?_ (fun _ => ?_))
   | exact ih0 _ _ _ _ _ _ _ _ _
   | exact ih1 _ _ _ _ _ _ _ _ _ _ _ _ _
   | exact ih2 _ _ _ _
   | exact impl_ShopOK.mono _ _ _ _ _
   | exact LeO.none _
   | refine LeO.ite ?_ ?_
   | refine LeO.bind ?_ (fun _ => ?_)
  ·intro y0 y1 y2 y3 y4 y5 y6 y7 y8 y9 y10 y11 y12
   unfold impl_Bound.l1
   repeat' first
   | (with_reducible exact ih0 _ _ _ _ _ _ _ _ _)
   | (with_reducible exact ih1 _ _ _ _ _ _ _ _ _ _ _ _ _)
   | (with_reducible exact ih2 _ _ _ _)
   | (with_reducible exact impl_ShopOK.mono _ _ _ _ _)
   | (with_reducible exact LeO.refl _)
   | (with_reducible exact LeO.none _)
   | (with_reducible refine LeO.ite ?_ ?_)
   | (with_reducible refine LeO.bind ?_ (fun _ => ?_))
   | exact ih0 _ _ _ _ _ _ _ _ _
   | exact ih1 _ _ _ _ _ _ _ _ _ _ _ _ _
   | exact ih2 _ _ _ _
   | exact impl_ShopOK.mono _ _ _ _ _
   | exact LeO.none _
   | refine LeO.ite ?_ ?_
   | refine LeO.bind ?_ (fun _ => ?_)
  ·intro y0 y1 y2 y3
   unfold impl_Bound.l2
   repeat' first
   | (with_reducible exact ih0 _ _ _ _ _ _ _ _ _)
   | (with_reducible exact ih1 _ _ _ _ _ _ _ _ _ _ _ _ _)
   | (with_reducible exact ih2 _ _ _ _)
   | (with_reducible exact impl_ShopOK.mono _ _ _ _ _)
   | (with_reducible exact LeO.refl _)
   | (with_reducible exact LeO.none _)
   | (with_reducible refine LeO.ite ?_ ?_)
   | (with_reducible refine LeO.bind ?_ (fun _ => ?_))
   | exact ih0 _ _ _ _ _ _ _ _ _
   | exact ih1 _ _ _ _ _ _ _ _ _ _ _ _ _
   | exact ih2 _ _ _ _
   | exact impl_ShopOK.mono _ _ _ _ _
   | exact LeO.none _
   | refine LeO.ite ?_ ?_
   | refine LeO.bind ?_ (fun _ => ?_)
theorem impl_Bound.mono : ∀ a0 a1 a2 a3 k, LeO (impl_Bound.f k a0 a1 a2 a3) (impl_Bound.f (k + 1) a0 a1 a2 a3) := by
 intro a0 a1 a2 a3 k
 obtain ⟨ih0, ih1, ih2⟩ := impl_Bound.mono_l k
 unfold impl_Bound.f
 repeat' first
   | (with_reducible exact ih0 _ _ _ _ _ _ _ _ _)
   | (with_reducible exact ih1 _ _ _ _ _ _ _ _ _ _ _ _ _)
   | (with_reducible exact ih2 _ _ _ _)
   | (with_reducible exact impl_ShopOK.mono _ _ _ _ _)
   | (with_reducible exact LeO.refl _)
   | (with_reducible exact LeO.none _)
   | (with_reducible refine LeO.ite ?_ ?_)
   | (with_reducible refine LeO.bind ?_ (fun _ => ?_))
   | exact ih0 _ _ _ _ _ _ _ _ _
   | exact ih1 _ _ _ _ _ _ _ _ _ _ _ _ _
   | exact ih2 _ _ _ _
   | exact impl_ShopOK.mono _ _ _ _ _
   | exact LeO.none _
   | refine LeO.ite ?_ ?_
   | refine LeO.bind ?_ (fun _ => ?_)
def impl_Bound.T16 : Bool × List (List Nat × List Nat) := (true, [([], []), ([], []), ([1], [1]), ([0, 2], [0, 2]), ([3], [3]), ([], []), ([5], [5]), ([4, 6], [4, 6]), ([0, 2, 0, 1, 2, 3, 4, 5, 6, 7], [0, 2]), ([8, 7, 0, 1, 2, 3, 4, 5, 6, 7], [7, 8])])
def impl_Bound.B16 : List Nat := [0, 0, 2, 7, 15, 0, 32, 127, 255, 511]
theorem impl_Bound.tab16 : rtab .any (opsOf Tryd.f20 16) = impl_Bound.T16 := by kernel_rfl
theorem impl_Bound.bits16 : waitsOk impl_Bound.T16.2 impl_Bound.B16 = true := by kernel_rfl
def impl_Bound.T20 : Bool × List (List Nat × List Nat) := (true, [([], []), ([], []), ([1], [1]), ([0, 2], [0, 2]), ([3], [3]), ([], []), ([5], [5]), ([4, 6], [4, 6]), ([0, 2, 0, 1, 2, 3, 4, 5, 6, 7], [0, 2]), ([8, 7, 0, 1, 2, 3, 4, 5, 6, 7], [7, 8])])
def impl_Bound.B20 : List Nat := [0, 0, 2, 7, 15, 0, 32, 127, 255, 511]
theorem impl_Bound.tab20 : rtab .any (opsOf Tryd.f20 20) = impl_Bound.T20 := by kernel_rfl
theorem impl_Bound.bits20 : waitsOk impl_Bound.T20.2 impl_Bound.B20 = true := by kernel_rfl
set_option maxHeartbeats 8000000 in
set_option maxRecDepth 100000 in
theorem impl_Bound.calls (k : Nat) (a0_0 : Int) (a0_1 : Int) (a0_2 : Int) (A1 : Option Addr) (c1 : Nat) (l1 : List (S68)) (r1 : Int) (r2 : Int) (w : World) (hr1 : Kd.C k68 w A1 l1.length l1) (hc1 : l1.length ≤ c1) (h : impl_Bound.f k a0_0 a0_1 a0_2 l1 = some (r1, r2)) (hT0 : LaidT w) :
  Calls Tryd.prog 20 #[.agg #[.int .i64 a0_0, .int .i64 a0_1, .int .i64 a0_2], .slice A1 l1.length c1] w fun e w' => e = .returned (.tuple #[.int .i64 r1, .int .i64 r2]) ∧ Below w.heap.size w w' := by
 have hu38 := Tryd.underlying38
 have hu68 := Tryd.underlying68
 have hu71 := Tryd.underlying71
 have hu77 := Tryd.underlying77
 have HR1 := Aside0.mk hr1
 have HC1 := Aside0.mk hc1
 clear hr1 hc1
 have HB := Aside0.mk (Below.refl w.heap.size w)
 have HT0 := Aside0.mk hT0
 clear hT0
 have H : (if (l1.length : Int) > 4096 then (some (0, 2)) else ((impl_ShopOK.f k a0_0 a0_1 a0_2 l1).bind fun t196 => (if t196 = true then (if 0 ≤ a0_0 then (if (a0_0 : Int).toNat ≤ 35184372088832 then (impl_Bound.l0 k 0 (List.replicate (a0_0 : Int).toNat 0) [] l1 (l1.length : Int) 0 a0_0 a0_1 a0_2) else (none)) else (none)) else (some (0, 1))))) = some (r1, r2) := h
 clear h
 by_cases c3 : (l1.length : Int) > 4096
 ·rw [if_pos c3] at H
  have c3b0 : decide (4096 < (l1.length : Int)) = true := decide_eq_true c3
  have c3b1 : decide (4096 < l1.length) = true := decide_eq_true (by omega)
  clear c3
  simp only [Option.some.injEq, Prod.mk.injEq] at H
  obtain ⟨rfl, rfl⟩ := H
  go_enter Tryd.func20, Tryd.ntmps20
  go_wp2_with (first | ((with_reducible refine gate_dst (N := 2) rfl ?_); refine box_event ?hg (N := 2) ?hd (cs := #[.int .i64 a0_0, .int .i64 a0_1, .int .i64 a0_2]) (t := 38) ?hr ?_; (case hd => rfl); (case hg => rfl); (case hr => first | (go_simp; done) | (go_simp; rfl)); intro gb195 hg w4 hbox hb; have n0_ := Aside0.mk (below_step (by repeat (first | (with_reducible first | exact HB.out | apply below_alloc | apply pw_below_drewN | apply below_drew1) | exact HB.out)) hb); have n1_ := Aside0.mk (hbox); have n2_ := Aside0.mk ((by rw [hg]; exact (below_size (by repeat (first | (with_reducible first | exact HB.out | apply below_alloc | apply pw_below_drewN | apply below_drew1) | exact HB.out))) : w.heap.size ≤ gb195)); have n3_ := Aside0.mk ((by rw [hg]; exact (below_size (by repeat (first | (with_reducible first | exact HB.out | apply below_alloc | apply pw_below_drewN | apply below_drew1) | exact HB.out))) : w.heap.size ≤ gb195)); clear HB; have HB := n0_; have BK195 := n1_; have GW195 := n2_; have GE195 := n3_; clear n0_ n1_ n2_ n3_; clear hb hbox hg))
  go_ret2
  exact ⟨by first | rfl | (simp [errW_none, errW_some] <;> rfl) | (simp [*, errW_none, errW_some] <;> rfl), by repeat (first | (with_reducible first | exact HB.out | apply below_alloc | apply pw_below_drewN | apply below_drew1 | refine below_set ?_ GE195.out) | exact HB.out)⟩
 ·rw [if_neg c3] at H
  have c3b0 : decide (4096 < (l1.length : Int)) = false := decide_eq_false c3
  have c3b1 : decide (4096 < l1.length) = false := decide_eq_false (by omega)
  clear c3
  replace H := Option.bind_eq_some_iff.mp H
  obtain ⟨t196, A50, H⟩ := H
  replace H : (if t196 = true then (if 0 ≤ a0_0 then (if (a0_0 : Int).toNat ≤ 35184372088832 then (impl_Bound.l0 k 0 (List.replicate (a0_0 : Int).toNat 0) [] l1 (l1.length : Int) 0 a0_0 a0_1 a0_2) else (none)) else (none)) else (some (0, 1))) = some (r1, r2) := H
  have A5 := Aside0.mk A50
  clear A50
  by_cases c6 : t196 = true
  ·subst c6
   have H1 : (if 0 ≤ a0_0 then (if (a0_0 : Int).toNat ≤ 35184372088832 then (impl_Bound.l0 k 0 (List.replicate (a0_0 : Int).toNat 0) [] l1 (l1.length : Int) 0 a0_0 a0_1 a0_2) else (none)) else (none)) = some (r1, r2) := by rw [if_pos rfl] at H; exact H
   clear H
   have H := H1
   clear H1
   by_cases c7 : 0 ≤ a0_0
   ·rw [if_pos c7] at H
    have c7b0 := eq_true c7
    have c7b1 : decide (0 ≤ a0_0) = true := decide_eq_true c7
    clear c7
    by_cases c8 : (a0_0 : Int).toNat ≤ 35184372088832
    ·rw [if_pos c8] at H
     have c8b0 := eq_true c8
     have c8b1 : decide ((a0_0 : Int).toNat ≤ 35184372088832) = true := decide_eq_true c8
     clear c8
     obtain ⟨y197, hy197⟩ : ∃ y_ : List Int, y_ = (List.replicate (a0_0 : Int).toNat 0) := ⟨_, rfl⟩
     replace H : (impl_Bound.l0 k 0 y197 [] l1 (l1.length : Int) 0 a0_0 a0_1 a0_2) = some (r1, r2) := by first | (rw [hy197]; with_reducible exact H) | (have H2_ := (Option.bind_some _ _).symm.trans H; rw [hy197]; with_reducible exact H2_) | (have H2_ := (Option.bind_some _ _).symm.trans H; with_reducible exact H2_) | with_reducible exact H | (rw [hy197]; exact H) | exact H
     have Ny197 := Aside0.mk hy197
     clear hy197
     have H' := Aside0.mk H
     clear H
     go_enter Tryd.func20, Tryd.ntmps20
     go_wp2_with (first | ((with_reducible refine gate_dst (N := 2) rfl ?_); refine box_event ?hg (N := 2) ?hd (cs := #[.int .i64 a0_0, .int .i64 a0_1, .int .i64 a0_2]) (t := 38) ?hr ?_; (case hd => rfl); (case hg => rfl); (case hr => first | (go_simp; done) | (go_simp; rfl)); intro gb195 hg w9 hbox hb; have n0_ := Aside0.mk (below_step (by repeat (first | (with_reducible first | exact HB.out | apply below_alloc | apply pw_below_drewN | apply below_drew1) | exact HB.out)) hb); have n1_ := Aside0.mk (hbox); have n2_ := Aside0.mk ((by rw [hg]; exact (below_size (by repeat (first | (with_reducible first | exact HB.out | apply below_alloc | apply pw_below_drewN | apply below_drew1) | exact HB.out))) : w.heap.size ≤ gb195)); have n3_ := Aside0.mk ((by rw [hg]; exact (below_size (by repeat (first | (with_reducible first | exact HB.out | apply below_alloc | apply pw_below_drewN | apply below_drew1) | exact HB.out))) : w.heap.size ≤ gb195)); clear HB; have HB := n0_; have BK195 := n1_; have GW195 := n2_; have GE195 := n3_; clear n0_ n1_ n2_ n3_; clear hb hbox hg; have hcz10_0 : w9.cell? ⟨gb195, 0, none⟩ = some (.int .i64 a0_0) := (blk_cell BK195.out 0).trans rfl; have hcz10_1 : w9.cell? ⟨gb195, 1, none⟩ = some (.int .i64 a0_1) := (blk_cell BK195.out 1).trans rfl; have hcz10_2 : w9.cell? ⟨gb195, 2, none⟩ = some (.int .i64 a0_2) := (blk_cell BK195.out 2).trans rfl; have hfz10_0 := blk_frozen BK195.out 0; have hfz10_1 := blk_frozen BK195.out 1; have hfz10_2 := blk_frozen BK195.out 2) | ((with_reducible refine gate_callee (f := 17) rfl ?_); refine goesL_ (some 22) rfl rfl Tryd.func17 (by kernel_rfl) rfl #[.agg #[.int .i64 a0_0, .int .i64 a0_1, .int .i64 a0_2], .slice A1 l1.length c1] rfl (by (try simp only [List.map_toArray, List.map_cons, List.map_nil]); first | done | rfl | (simp only [List.length_drop, List.length_take]; rfl)) ?_; (with_reducible refine (impl_ShopOK.calls k a0_0 a0_1 a0_2 _ _ l1 true _ ?side1 ?side2 A5.out (laid_on HT0.out (by repeat (first | (with_reducible first | exact HB.out | apply below_alloc | apply pw_below_drewN | apply below_drew1 | refine below_set ?_ GE195.out) | exact HB.out)))).mono ?_); (case side1 => repeat (first | exact (Kd.C_below HR1.out HB.out) | (with_reducible refine Kd.C_alloc ?_ _) | (with_reducible refine Kd.C_drewN ?_ _) | (with_reducible refine Kd.C_drew ?_))); (case side2 => exact HC1.out); rintro e w11 ⟨rfl, hb⟩; refine ⟨_, rfl, ?_⟩; have n0_ := Aside0.mk (blk_below (g := gb195) (o := .cells #[.int .i64 a0_0, .int .i64 a0_1, .int .i64 a0_2] 38 (0, 0)) (by (with_reducible repeat (first | refine blk_drewN ?_ _ | refine blk_drew ?_ | refine blk_alloc ?_ _)); exact BK195.out) hb); have n1_ := Aside0.mk (below_step (by repeat (first | (with_reducible first | exact HB.out | apply below_alloc | apply pw_below_drewN | apply below_drew1 | refine below_set ?_ GE195.out) | exact HB.out)) hb); clear BK195; clear HB; have BK195 := n0_; have HB := n1_; clear n0_ n1_; (try clear hb); (try clear hb2); (try clear hk); (try clear hi); have hcz12_0 : w11.cell? ⟨gb195, 0, none⟩ = some (.int .i64 a0_0) := (blk_cell BK195.out 0).trans rfl; have hcz12_1 : w11.cell? ⟨gb195, 1, none⟩ = some (.int .i64 a0_1) := (blk_cell BK195.out 1).trans rfl; have hcz12_2 : w11.cell? ⟨gb195, 2, none⟩ = some (.int .i64 a0_2) := (blk_cell BK195.out 2).trans rfl; have hfz12_0 := blk_frozen BK195.out 0; have hfz12_1 := blk_frozen BK195.out 1; have hfz12_2 := blk_frozen BK195.out 2) | ((with_reducible refine gate_dst (N := 26) rfl ?_); refine Kd.R_make (Kd.int .i64) _ 3 rfl (N := 26) rfl 46 _ _ rfl a0_0 rfl rfl Tryd.underlying46 (.int .i64 0) 8 info3 rfl (by decide) (by omega) 0 (ok := fun _ => True) (okp := fun _ => True) rfl (fun _ hk => hk) trivial (of_decide_eq_true (by first | (with_reducible assumption) | assumption)) (Nat.le_trans (Nat.mul_le_mul_right _ (of_decide_eq_true (by first | (with_reducible assumption) | assumption) : a0_0.toNat ≤ 35184372088832)) (by omega)) (Below.refl _ _) (Nat.le_refl _) ?_; intro v198 w13 ho14 hb hg_ hnew_; clear hg_ hnew_; (first | rw [← Ny197.out] at ho14 | (simp only [Int.reduceToNat] at ho14; rw [← Ny197.out] at ho14)); have n0_ := Aside0.mk (Kd.R_lower ho14 (below_size (by repeat (first | (with_reducible first | exact HB.out | apply below_alloc | apply pw_below_drewN | apply below_drew1 | refine below_set ?_ GE195.out) | exact HB.out)))); have n1_ := Aside0.mk (blk_below (g := gb195) (o := .cells #[.int .i64 a0_0, .int .i64 a0_1, .int .i64 a0_2] 38 (0, 0)) (by (with_reducible repeat (first | refine blk_drewN ?_ _ | refine blk_drew ?_ | refine blk_alloc ?_ _)); exact BK195.out) hb); have n2_ := Aside0.mk (below_step (by repeat (first | (with_reducible first | exact HB.out | apply below_alloc | apply pw_below_drewN | apply below_drew1 | refine below_set ?_ GE195.out) | exact HB.out)) hb); clear BK195; clear HB; have HO199 := n0_; have BK195 := n1_; have HB := n2_; clear n0_ n1_ n2_; clear hb ho14) | ((with_reducible refine gate_ (Op.makeMap 76 none) rfl ?_); refine Seen.make_event rfl rfl ?_; intro BM hg wm hbox hb; have n0_ := Aside0.mk (Kd.R_below (by (with_reducible repeat (first | apply Kd.R_alloc | apply Kd.R_drewN | apply Kd.R_drew)); exact HO199.out) hb); have n1_ := Aside0.mk (blk_below (g := gb195) (o := .cells #[.int .i64 a0_0, .int .i64 a0_1, .int .i64 a0_2] 38 (0, 0)) (by (with_reducible repeat (first | refine blk_drewN ?_ _ | refine blk_drew ?_ | refine blk_alloc ?_ _)); exact BK195.out) hb); have n2_ := Aside0.mk (below_step (by repeat (first | (with_reducible first | exact HB.out | apply below_alloc | apply pw_below_drewN | apply below_drew1 | refine below_set ?_ GE195.out) | exact HB.out)) hb); have n3_ := Aside0.mk ((by rw [hg]; exact (below_size (by repeat (first | (with_reducible first | exact HB.out | apply below_alloc | apply pw_below_drewN | apply below_drew1 | refine below_set ?_ GE195.out) | exact HB.out)))) : w.heap.size ≤ BM); have n4_ := Aside0.mk (pair_made (P := Tryd.prog) (k := 77) (e := 4) impl_Bound.key hbox); have n5_ := Aside0.mk (show BM ≠ gb195 from Nat.ne_of_gt (by rw [hg]; exact blk_lt (g := gb195) (o := .cells #[.int .i64 a0_0, .int .i64 a0_1, .int .i64 a0_2] 38 (0, 0)) (by (with_reducible repeat (first | refine blk_drewN ?_ _ | refine blk_drew ?_ | refine blk_alloc ?_ _)); exact BK195.out))); clear HO199; clear BK195; clear HB; have HO199 := n0_; have BK195 := n1_; have HB := n2_; have HBM := n3_; have HMN := n4_; have GNE195 := n5_; clear n0_ n1_ n2_ n3_ n4_ n5_; clear hb hbox hg))
     go_loopg [6, 30] k (fun kq v6 v30 w' => ∃ (x6_1 : Int) (x7_1 : List Int) (x8_1 : List (Int × Int)) (x30_1 : Int), v6 = .int .i64 x6_1 ∧ v30 = .int .i64 x30_1 ∧ Aside0 (impl_Bound.l0 kq x6_1 x7_1 x8_1 l1 (l1.length : Int) x30_1 a0_0 a0_1 a0_2 = some (r1, r2)) ∧ Aside0 (kq ≤ k) ∧ Aside0 (Kd.R (Kd.int .i64) 3 w' w.heap.size (fun _ => True) v198 x7_1) ∧ Aside0 (w'.heap[gb195]? = some (.cells #[.int .i64 a0_0, .int .i64 a0_1, .int .i64 a0_2] 38 (0, 0))) ∧ Aside0 (PairAt Tryd.prog 77 4 BM x8_1 w') ∧ Aside0 (Below w.heap.size w w'))
     case atStart => exact ⟨(0), (y197), [], (0), (by first | rfl | (simp; done) | (simp [*]; done)), (by first | rfl | (simp; done) | (simp [*]; done)), H', ⟨Nat.le_refl _⟩, ⟨by (with_reducible repeat (first | apply Kd.R_alloc | apply Kd.R_drewN | apply Kd.R_drew)); exact HO199.out⟩, ⟨by (with_reducible repeat (first | refine blk_drewN ?_ _ | refine blk_drew ?_ | refine blk_alloc ?_ _)); exact BK195.out⟩, HMN, ⟨by repeat (first | (with_reducible first | exact HB.out | apply below_alloc | apply pw_below_drewN | apply below_drew1 | refine below_set ?_ GE195.out) | exact HB.out)⟩⟩
     case round =>
      clear H'
      try clear c1
      try clear c2
      try clear p2
      try clear c3
      try clear c3b0
      try clear c3b1
      try clear c6
      try clear c7
      try clear c7b0
      try clear c7b1
      try clear c8
      try clear c8b0
      try clear c8b1
      try clear hcz10_0
      try clear hcz10_1
      try clear hcz10_2
      try clear hcz12_0
      try clear hcz12_1
      try clear hcz12_2
      try clear hfz10_0
      try clear hfz10_1
      try clear hfz10_2
      try clear hfz12_0
      try clear hfz12_1
      try clear hfz12_2
      obtain ⟨x6_1, x7_1, x8_1, x30_1, rfl, rfl, HA, HK1, HO_7, BK195, HMI, HB⟩ := hrel
      obtain ⟨om, hom, hos⟩ := HMI.out
      have BKM := Aside0.mk hom
      have HS := Aside0.mk hos
      clear hom hos HMI
      try clear HMN
      cases gk with
      | zero => exact absurd HA.out (by simp [impl_Bound.l0])
      | succ k1 =>
       have H := HA.out
       clear HA
       simp only [impl_Bound.l0] at H
       by_cases c15 : x30_1 < (l1.length : Int)
       ·rw [if_pos c15] at H
        have c15b0 : decide (x30_1 < (l1.length : Int)) = true := decide_eq_true c15
        clear c15
        by_cases c16 : 0 ≤ x30_1
        ·rw [if_pos c16] at H
         have c16b0 : decide (0 ≤ x30_1) = true := decide_eq_true c16
         clear c16
         by_cases c17 : x30_1 < (l1.length : Int)
         ·rw [if_pos c17] at H
          have c17b0 : decide (x30_1 < (l1.length : Int)) = true := decide_eq_true c17
          clear c17
          have H' := Aside0.mk H
          clear H
          have p200 : 0 ≤ (x30_1 : Int) := of_decide_eq_true (by first | (with_reducible assumption) | assumption)
          have q200 : x30_1 < (l1.length : Int) := of_decide_eq_true (by first | (with_reducible assumption) | assumption)
          obtain ⟨ad200, A200_2, c200_2, e200, hx200_0, hx200_1, hx200_2, hl200_2, hi200_2⟩ := at_T68 HR1.out x30_1 p200 q200
          cases e200
          replace hx200_0 := (HB.out.cell (World.block_lt_of_cell? w _ hx200_0)).trans hx200_0
          replace hx200_1 := (HB.out.cell (World.block_lt_of_cell? w _ hx200_1)).trans hx200_1
          replace hx200_2 := (HB.out.cell (World.block_lt_of_cell? w _ hx200_2)).trans hx200_2
          have HR200_2 := Aside0.mk hi200_2
          have HC200_2 := Aside0.mk hl200_2
          clear hi200_2 hl200_2
          replace p200 := eq_true p200
          replace q200 := eq_true q200
          go_wp2_with (first | ((with_reducible refine gate_dst (N := 10) rfl ?_); refine box_event ?hg (N := 10) ?hd (cs := #[.string (⟨#[]⟩ : ByteArray), .int .i64 0, .slice none 0 0]) (t := 68) ?hr ?_; (case hd => rfl); (case hg => rfl); (case hr => first | (go_simp; done) | (go_simp; rfl)); intro gb201 hg w18 hbox hb; have n0_ := Aside0.mk (Kd.R_below (by (with_reducible repeat (first | apply Kd.R_alloc | apply Kd.R_drewN | apply Kd.R_drew)); exact HO_7.out) hb); have n1_ := Aside0.mk (blk_below (g := gb195) (o := .cells #[.int .i64 a0_0, .int .i64 a0_1, .int .i64 a0_2] 38 (0, 0)) (by (with_reducible repeat (first | refine blk_drewN ?_ _ | refine blk_drew ?_ | refine blk_alloc ?_ _)); exact BK195.out) hb); have n2_ := Aside0.mk (below_step (by repeat (first | (with_reducible first | exact HB.out | apply below_alloc | apply pw_below_drewN | apply below_drew1 | refine below_set ?_ GE195.out) | exact HB.out)) hb); have n3_ := Aside0.mk (hbox); have n4_ := Aside0.mk ((by rw [hg]; exact (below_size (by repeat (first | (with_reducible first | exact HB.out | apply below_alloc | apply pw_below_drewN | apply below_drew1 | refine below_set ?_ GE195.out) | exact HB.out))) : w.heap.size ≤ gb201)); have n5_ := Aside0.mk ((by rw [hg]; exact (below_size (by repeat (first | (with_reducible first | exact HB.out | apply below_alloc | apply pw_below_drewN | apply below_drew1 | refine below_set ?_ GE195.out) | exact HB.out))) : w.heap.size ≤ gb201)); have n6_ := Aside0.mk ((by rw [hg]; exact Nat.ne_of_lt (blk_lt (g := gb195) (o := .cells #[.int .i64 a0_0, .int .i64 a0_1, .int .i64 a0_2] 38 (0, 0)) (by (with_reducible repeat (first | refine blk_drewN ?_ _ | refine blk_drew ?_ | refine blk_alloc ?_ _)); exact BK195.out)) : gb195 ≠ gb201)); have n7_ := Aside0.mk ((by rw [hg]; exact Nat.ne_of_gt (blk_lt (g := gb195) (o := .cells #[.int .i64 a0_0, .int .i64 a0_1, .int .i64 a0_2] 38 (0, 0)) (by (with_reducible repeat (first | refine blk_drewN ?_ _ | refine blk_drew ?_ | refine blk_alloc ?_ _)); exact BK195.out)) : gb201 ≠ gb195)); clear HO_7; clear BK195; clear HB; have HO_7 := n0_; have BK195 := n1_; have HB := n2_; have BK201 := n3_; have GW201 := n4_; have GE201 := n5_; have NB195_201 := n6_; have NB201_195 := n7_; clear n0_ n1_ n2_ n3_ n4_ n5_ n6_ n7_; have m0_ := Aside0.mk (blk_below (g := BM) (o := om) (by (with_reducible repeat (first | refine blk_drewN ?_ _ | refine blk_drew ?_ | refine blk_alloc ?_ _ | refine Seen.obj_far ?_ GNE195.out _)); exact BKM.out) hb); have m1_ := Aside0.mk (show BM ≠ gb201 from Nat.ne_of_lt (by rw [hg]; exact blk_lt (o := om) (by (with_reducible repeat (first | refine blk_drewN ?_ _ | refine blk_drew ?_ | refine blk_alloc ?_ _ | refine Seen.obj_far ?_ GNE195.out _)); exact BKM.out))); clear BKM; have BKM := m0_; have GNE201 := m1_; clear m0_ m1_; clear hb hbox hg; have hnb19 := NB201_195.out; have hnc19 := NB195_201.out; have hcz20_0 : w18.cell? ⟨gb201, 0, none⟩ = some (.string (⟨#[]⟩ : ByteArray)) := (blk_cell BK201.out 0).trans rfl; have hcz20_1 : w18.cell? ⟨gb201, 1, none⟩ = some (.int .i64 0) := (blk_cell BK201.out 1).trans rfl; have hcz20_2 : w18.cell? ⟨gb201, 2, none⟩ = some (.slice none 0 0) := (blk_cell BK201.out 2).trans rfl; have hfz20_0 := blk_frozen BK201.out 0; have hfz20_1 := blk_frozen BK201.out 1; have hfz20_2 := blk_frozen BK201.out 2))
          go_loopg [11, 37] k1 (fun kq v11 v37 w' => ∃ (x7_2 : List Int) (x8_2 : List (Int × Int)) (x11_2 : Int) (x37_2 : Int), v11 = .int .i64 x11_2 ∧ v37 = .int .i64 x37_2 ∧ Aside0 (impl_Bound.l1 kq x6_1 x7_2 x8_2 x11_2 l1 (l1.length : Int) x30_1 ((rd_T68 l1 x30_1).f2) (((rd_T68 l1 x30_1).f2).length : Int) x37_2 a0_0 a0_1 a0_2 = some (r1, r2)) ∧ Aside0 (kq ≤ k1) ∧ Aside0 (Kd.R (Kd.int .i64) 3 w' w.heap.size (fun _ => True) v198 x7_2) ∧ Aside0 (w'.heap[gb195]? = some (.cells #[.int .i64 a0_0, .int .i64 a0_1, .int .i64 a0_2] 38 (0, 0))) ∧ Aside0 (w'.heap[gb201]? = some (.cells #[.string ((rd_T68 l1 x30_1).f0), .int .i64 ((rd_T68 l1 x30_1).f1), (.slice A200_2 ((rd_T68 l1 x30_1).f2).length c200_2)] 68 (0, 0))) ∧ Aside0 (PairAt Tryd.prog 77 4 BM x8_2 w') ∧ Aside0 (Below w.heap.size w w'))
          case atStart => exact ⟨(x7_1), (x8_1), (0), (0), (by first | rfl | (simp; done) | (simp [*]; done)), (by first | rfl | (simp; done) | (simp [*]; done)), H', ⟨Nat.le_refl _⟩, ⟨by (with_reducible repeat (first | apply Kd.R_alloc | apply Kd.R_drewN | apply Kd.R_drew)); exact Kd.R_mono (Kd.R_far (p := ⟨gb201, 2, none⟩) (Kd.R_far (p := ⟨gb201, 1, none⟩) (Kd.R_far (p := ⟨gb201, 0, none⟩) (Kd.R_types HO_7.out BK201.out (by decide)) (fun _ hk => hk.2) (.string ((rd_T68 l1 x30_1).f0))) (fun _ hk => hk.2) (.int .i64 ((rd_T68 l1 x30_1).f1))) (fun _ hk => hk.2) (.slice A200_2 ((rd_T68 l1 x30_1).f2).length c200_2)) (fun _ hk => trivial)⟩, ⟨by (with_reducible repeat (first | refine blk_drewN ?_ _ | refine blk_drew ?_ | refine blk_alloc ?_ _)); refine blk_far ?_ NB195_201.out _; (with_reducible repeat (first | refine blk_drewN ?_ _ | refine blk_drew ?_ | refine blk_alloc ?_ _)); refine blk_far ?_ NB195_201.out _; (with_reducible repeat (first | refine blk_drewN ?_ _ | refine blk_drew ?_ | refine blk_alloc ?_ _)); refine blk_far ?_ NB195_201.out _; (with_reducible repeat (first | refine blk_drewN ?_ _ | refine blk_drew ?_ | refine blk_alloc ?_ _)); exact BK195.out⟩, ⟨by (with_reducible repeat (first | refine blk_drewN ?_ _ | refine blk_drew ?_ | refine blk_alloc ?_ _)); refine blk_put (cs := #[.string ((rd_T68 l1 x30_1).f0), .int .i64 ((rd_T68 l1 x30_1).f1), .slice none 0 0]) ?_ 2 _ rfl; (with_reducible repeat (first | refine blk_drewN ?_ _ | refine blk_drew ?_ | refine blk_alloc ?_ _)); refine blk_put (cs := #[.string ((rd_T68 l1 x30_1).f0), .int .i64 0, .slice none 0 0]) ?_ 1 _ rfl; (with_reducible repeat (first | refine blk_drewN ?_ _ | refine blk_drew ?_ | refine blk_alloc ?_ _)); refine blk_put (cs := #[.string (⟨#[]⟩ : ByteArray), .int .i64 0, .slice none 0 0]) ?_ 0 _ rfl; (with_reducible repeat (first | refine blk_drewN ?_ _ | refine blk_drew ?_ | refine blk_alloc ?_ _)); exact BK201.out⟩, ⟨⟨_, (by (with_reducible repeat (first | refine blk_drewN ?_ _ | refine blk_drew ?_ | refine blk_alloc ?_ _ | refine Seen.obj_far ?_ GNE195.out _ | refine Seen.obj_far ?_ GNE201.out _)); exact BKM.out), HS.out⟩⟩, ⟨by repeat (first | (with_reducible first | exact HB.out | apply below_alloc | apply pw_below_drewN | apply below_drew1 | refine below_set ?_ GE195.out | refine below_set ?_ GE201.out) | exact HB.out)⟩⟩
          case round =>
           clear H'
           try clear c1
           try clear c2
           try clear p2
           try clear q2
           try clear hx2
           try clear c3
           try clear c3b0
           try clear c3b1
           try clear c6
           try clear c7
           try clear c7b0
           try clear c7b1
           try clear c8
           try clear c8b0
           try clear c8b1
           try clear c15
           try clear c15b0
           try clear c16
           try clear c16b0
           try clear c17
           try clear c17b0
           try clear c19
           try clear c20
           try clear p20
           try clear q20
           try clear hx20
           try clear hcz10_0
           try clear hcz10_1
           try clear hcz10_2
           try clear hcz12_0
           try clear hcz12_1
           try clear hcz12_2
           try clear hcz20_0
           try clear hcz20_1
           try clear hcz20_2
           try clear hfz10_0
           try clear hfz10_1
           try clear hfz10_2
           try clear hfz12_0
           try clear hfz12_1
           try clear hfz12_2
           try clear hfz20_0
           try clear hfz20_1
           try clear hfz20_2
           try clear hx200_0
           try clear hx200_1
           try clear hx200_2
           try clear p2
           try clear p200
           try clear q200
           obtain ⟨x7_2, x8_2, x11_2, x37_2, rfl, rfl, HA, HK2, HO_7, BK195, BK201, HMI, HB⟩ := hrel
           obtain ⟨om, hom, hos⟩ := HMI.out
           have BKM := Aside0.mk hom
           have HS := Aside0.mk hos
           clear hom hos HMI
           try clear HMN
           cases gk with
           | zero => exact absurd HA.out (by simp [impl_Bound.l1])
           | succ k2 =>
            have H := HA.out
            clear HA
            simp only [impl_Bound.l1] at H
            by_cases c21 : x37_2 < (((rd_T68 l1 x30_1).f2).length : Int)
            ·rw [if_pos c21] at H
             have c21b0 : decide (x37_2 < (((rd_T68 l1 x30_1).f2).length : Int)) = true := decide_eq_true c21
             clear c21
             by_cases c22 : 0 ≤ x37_2
             ·rw [if_pos c22] at H
              have c22b0 : decide (0 ≤ x37_2) = true := decide_eq_true c22
              clear c22
              by_cases c23 : x37_2 < (((rd_T68 l1 x30_1).f2).length : Int)
              ·rw [if_pos c23] at H
               have c23b0 : decide (x37_2 < (((rd_T68 l1 x30_1).f2).length : Int)) = true := decide_eq_true c23
               clear c23
               by_cases c24 : 0 ≤ ((rd_T71 ((rd_T68 l1 x30_1).f2) x37_2).f0)
               ·rw [if_pos c24] at H
                have c24b0 : decide (0 ≤ ((rd_T71 ((rd_T68 l1 x30_1).f2) x37_2).f0)) = true := decide_eq_true c24
                clear c24
                by_cases c25 : ((rd_T71 ((rd_T68 l1 x30_1).f2) x37_2).f0) < (x7_2.length : Int)
                ·rw [if_pos c25] at H
                 have c25b0 : decide (((rd_T71 ((rd_T68 l1 x30_1).f2) x37_2).f0) < (x7_2.length : Int)) = true := decide_eq_true c25
                 clear c25
                 obtain ⟨y205, hy205⟩ : ∃ y_ : List Int, y_ = (x7_2.set (((rd_T71 ((rd_T68 l1 x30_1).f2) x37_2).f0) : Int).toNat (wrap64 ((rd x7_2 ((rd_T71 ((rd_T68 l1 x30_1).f2) x37_2).f0)) + ((rd_T71 ((rd_T68 l1 x30_1).f2) x37_2).f1)))) := ⟨_, rfl⟩
                 replace H : (if Small ((rd_T71 ((rd_T68 l1 x30_1).f2) x37_2).f0) ((rd_T71 ((rd_T68 l1 x30_1).f2) x37_2).f2) then (if x8_2.length < 1000 then (if inP x8_2 ((rd_T71 ((rd_T68 l1 x30_1).f2) x37_2).f0) ((rd_T71 ((rd_T68 l1 x30_1).f2) x37_2).f2) = true then (impl_Bound.l1 k2 x6_1 y205 x8_2 (wrap64 (x11_2 + ((rd_T71 ((rd_T68 l1 x30_1).f2) x37_2).f1))) l1 (l1.length : Int) x30_1 ((rd_T68 l1 x30_1).f2) (((rd_T68 l1 x30_1).f2).length : Int) (wrap64 (x37_2 + 1)) a0_0 a0_1 a0_2) else (impl_Bound.l1 k2 x6_1 (y205.set (((rd_T71 ((rd_T68 l1 x30_1).f2) x37_2).f0) : Int).toNat (wrap64 ((rd y205 ((rd_T71 ((rd_T68 l1 x30_1).f2) x37_2).f0)) + a0_1))) (x8_2 ++ [(((rd_T71 ((rd_T68 l1 x30_1).f2) x37_2).f0), ((rd_T71 ((rd_T68 l1 x30_1).f2) x37_2).f2))]) (wrap64 (x11_2 + ((rd_T71 ((rd_T68 l1 x30_1).f2) x37_2).f1))) l1 (l1.length : Int) x30_1 ((rd_T68 l1 x30_1).f2) (((rd_T68 l1 x30_1).f2).length : Int) (wrap64 (x37_2 + 1)) a0_0 a0_1 a0_2)) else (none)) else (none)) = some (r1, r2) := by first | (rw [hy205]; with_reducible exact H) | (have H2_ := (Option.bind_some _ _).symm.trans H; rw [hy205]; with_reducible exact H2_) | (have H2_ := (Option.bind_some _ _).symm.trans H; with_reducible exact H2_) | with_reducible exact H | (rw [hy205]; exact H) | exact H
                 have Ny205 := Aside0.mk hy205
                 clear hy205
                 have cKs : Small ((rd_T71 ((rd_T68 l1 x30_1).f2) x37_2).f0) ((rd_T71 ((rd_T68 l1 x30_1).f2) x37_2).f2) := Decidable.byContradiction fun hn_ => by rw [if_neg hn_] at H; exact absurd H (by simp)
                 rw [if_pos cKs] at H
                 have cKl : x8_2.length < 1000 := Decidable.byContradiction fun hn_ => by rw [if_neg hn_] at H; exact absurd H (by simp)
                 rw [if_pos cKl] at H
                 have KS := Aside0.mk cKs
                 have KL := Aside0.mk cKl
                 clear cKs cKl
                 by_cases c27 : inP x8_2 ((rd_T71 ((rd_T68 l1 x30_1).f2) x37_2).f0) ((rd_T71 ((rd_T68 l1 x30_1).f2) x37_2).f2) = true
                 ·rw [if_pos c27] at H
                  have c27b0 : inP x8_2 ((rd_T71 ((rd_T68 l1 x30_1).f2) x37_2).f0) ((rd_T71 ((rd_T68 l1 x30_1).f2) x37_2).f2) = true := c27
                  clear c27
                  have H' := Aside0.mk H
                  clear H
                  have p202 : 0 ≤ (x37_2 : Int) := of_decide_eq_true (by first | (with_reducible assumption) | assumption)
                  have q202 : x37_2 < (((rd_T68 l1 x30_1).f2).length : Int) := of_decide_eq_true (by first | (with_reducible assumption) | assumption)
                  obtain ⟨ad202, e202, hx202_0, hx202_1, hx202_2, hx202_3⟩ := at_T71 HR200_2.out x37_2 p202 q202
                  cases e202
                  replace hx202_0 := (HB.out.cell (World.block_lt_of_cell? w _ hx202_0)).trans hx202_0
                  replace hx202_1 := (HB.out.cell (World.block_lt_of_cell? w _ hx202_1)).trans hx202_1
                  replace hx202_2 := (HB.out.cell (World.block_lt_of_cell? w _ hx202_2)).trans hx202_2
                  replace hx202_3 := (HB.out.cell (World.block_lt_of_cell? w _ hx202_3)).trans hx202_3
                  replace p202 := eq_true p202
                  replace q202 := eq_true q202
                  try go_wp2_with (first | ((with_reducible refine gate_dst (N := 13) rfl ?_); refine box_event ?hg (N := 13) ?hd (cs := #[.int .i64 0, .int .i64 0, .int .i64 0, .int .i64 0]) (t := 71) ?hr ?_; (case hd => rfl); (case hg => rfl); (case hr => first | (go_simp; done) | (go_simp; rfl)); intro gb203 hg w28 hbox hb; have n0_ := Aside0.mk (Kd.R_below (by (with_reducible repeat (first | apply Kd.R_alloc | apply Kd.R_drewN | apply Kd.R_drew)); exact HO_7.out) hb); have n1_ := Aside0.mk (blk_below (g := gb195) (o := .cells #[.int .i64 a0_0, .int .i64 a0_1, .int .i64 a0_2] 38 (0, 0)) (by (with_reducible repeat (first | refine blk_drewN ?_ _ | refine blk_drew ?_ | refine blk_alloc ?_ _)); exact BK195.out) hb); have n2_ := Aside0.mk (blk_below (g := gb201) (o := .cells #[.string ((rd_T68 l1 x30_1).f0), .int .i64 ((rd_T68 l1 x30_1).f1), .slice (some ad202) ((rd_T68 l1 x30_1).f2).length c200_2] 68 (0, 0)) (by (with_reducible repeat (first | refine blk_drewN ?_ _ | refine blk_drew ?_ | refine blk_alloc ?_ _)); exact BK201.out) hb); have n3_ := Aside0.mk (below_step (by repeat (first | (with_reducible first | exact HB.out | apply below_alloc | apply pw_below_drewN | apply below_drew1 | refine below_set ?_ GE195.out | refine below_set ?_ GE201.out) | exact HB.out)) hb); have n4_ := Aside0.mk (hbox); have n5_ := Aside0.mk ((by rw [hg]; exact (below_size (by repeat (first | (with_reducible first | exact HB.out | apply below_alloc | apply pw_below_drewN | apply below_drew1 | refine below_set ?_ GE195.out | refine below_set ?_ GE201.out) | exact HB.out))) : w.heap.size ≤ gb203)); have n6_ := Aside0.mk ((by rw [hg]; exact (below_size (by repeat (first | (with_reducible first | exact HB.out | apply below_alloc | apply pw_below_drewN | apply below_drew1 | refine below_set ?_ GE195.out | refine below_set ?_ GE201.out) | exact HB.out))) : w.heap.size ≤ gb203)); have n7_ := Aside0.mk ((by rw [hg]; exact Nat.ne_of_lt (blk_lt (g := gb195) (o := .cells #[.int .i64 a0_0, .int .i64 a0_1, .int .i64 a0_2] 38 (0, 0)) (by (with_reducible repeat (first | refine blk_drewN ?_ _ | refine blk_drew ?_ | refine blk_alloc ?_ _)); exact BK195.out)) : gb195 ≠ gb203)); have n8_ := Aside0.mk ((by rw [hg]; exact Nat.ne_of_gt (blk_lt (g := gb195) (o := .cells #[.int .i64 a0_0, .int .i64 a0_1, .int .i64 a0_2] 38 (0, 0)) (by (with_reducible repeat (first | refine blk_drewN ?_ _ | refine blk_drew ?_ | refine blk_alloc ?_ _)); exact BK195.out)) : gb203 ≠ gb195)); have n9_ := Aside0.mk ((by rw [hg]; exact Nat.ne_of_lt (blk_lt (g := gb201) (o := .cells #[.string ((rd_T68 l1 x30_1).f0), .int .i64 ((rd_T68 l1 x30_1).f1), .slice (some ad202) ((rd_T68 l1 x30_1).f2).length c200_2] 68 (0, 0)) (by (with_reducible repeat (first | refine blk_drewN ?_ _ | refine blk_drew ?_ | refine blk_alloc ?_ _)); exact BK201.out)) : gb201 ≠ gb203)); have n10_ := Aside0.mk ((by rw [hg]; exact Nat.ne_of_gt (blk_lt (g := gb201) (o := .cells #[.string ((rd_T68 l1 x30_1).f0), .int .i64 ((rd_T68 l1 x30_1).f1), .slice (some ad202) ((rd_T68 l1 x30_1).f2).length c200_2] 68 (0, 0)) (by (with_reducible repeat (first | refine blk_drewN ?_ _ | refine blk_drew ?_ | refine blk_alloc ?_ _)); exact BK201.out)) : gb203 ≠ gb201)); clear HO_7; clear BK195; clear BK201; clear HB; have HO_7 := n0_; have BK195 := n1_; have BK201 := n2_; have HB := n3_; have BK203 := n4_; have GW203 := n5_; have GE203 := n6_; have NB195_203 := n7_; have NB203_195 := n8_; have NB201_203 := n9_; have NB203_201 := n10_; clear n0_ n1_ n2_ n3_ n4_ n5_ n6_ n7_ n8_ n9_ n10_; have m0_ := Aside0.mk (blk_below (g := BM) (o := om) (by (with_reducible repeat (first | refine blk_drewN ?_ _ | refine blk_drew ?_ | refine blk_alloc ?_ _ | refine Seen.obj_far ?_ GNE195.out _ | refine Seen.obj_far ?_ GNE201.out _)); exact BKM.out) hb); have m1_ := Aside0.mk (show BM ≠ gb203 from Nat.ne_of_lt (by rw [hg]; exact blk_lt (o := om) (by (with_reducible repeat (first | refine blk_drewN ?_ _ | refine blk_drew ?_ | refine blk_alloc ?_ _ | refine Seen.obj_far ?_ GNE195.out _ | refine Seen.obj_far ?_ GNE201.out _)); exact BKM.out))); clear BKM; have BKM := m0_; have GNE203 := m1_; clear m0_ m1_; clear hb hbox hg; have hnb29 := NB203_195.out; have hnc29 := NB195_203.out; have hnb30 := NB203_201.out; have hnc30 := NB201_203.out; have hcz31_0 : w28.cell? ⟨gb203, 0, none⟩ = some (.int .i64 0) := (blk_cell BK203.out 0).trans rfl; have hcz31_1 : w28.cell? ⟨gb203, 1, none⟩ = some (.int .i64 0) := (blk_cell BK203.out 1).trans rfl; have hcz31_2 : w28.cell? ⟨gb203, 2, none⟩ = some (.int .i64 0) := (blk_cell BK203.out 2).trans rfl; have hcz31_3 : w28.cell? ⟨gb203, 3, none⟩ = some (.int .i64 0) := (blk_cell BK203.out 3).trans rfl; have hfz31_0 := blk_frozen BK203.out 0; have hfz31_1 := blk_frozen BK203.out 1; have hfz31_2 := blk_frozen BK203.out 2; have hfz31_3 := blk_frozen BK203.out 3))
                  have n0_ : Aside0 (Kd.R (Kd.int .i64) 3 ((((w28.setCell ⟨gb203, 0, none⟩ (.int .i64 ((rd_T71 ((rd_T68 l1 x30_1).f2) x37_2).f0))).setCell ⟨gb203, 1, none⟩ (.int .i64 ((rd_T71 ((rd_T68 l1 x30_1).f2) x37_2).f1))).setCell ⟨gb203, 2, none⟩ (.int .i64 ((rd_T71 ((rd_T68 l1 x30_1).f2) x37_2).f2))).setCell ⟨gb203, 3, none⟩ (.int .i64 ((rd_T71 ((rd_T68 l1 x30_1).f2) x37_2).f3))) w.heap.size (fun _ => True) v198 x7_2) := ⟨by (with_reducible repeat (first | apply Kd.R_alloc | apply Kd.R_drewN | apply Kd.R_drew)); exact Kd.R_mono (Kd.R_far (p := ⟨gb203, 3, none⟩) (Kd.R_far (p := ⟨gb203, 2, none⟩) (Kd.R_far (p := ⟨gb203, 1, none⟩) (Kd.R_far (p := ⟨gb203, 0, none⟩) (Kd.R_types HO_7.out BK203.out (by decide)) (fun _ hk => hk.2) (.int .i64 ((rd_T71 ((rd_T68 l1 x30_1).f2) x37_2).f0))) (fun _ hk => hk.2) (.int .i64 ((rd_T71 ((rd_T68 l1 x30_1).f2) x37_2).f1))) (fun _ hk => hk.2) (.int .i64 ((rd_T71 ((rd_T68 l1 x30_1).f2) x37_2).f2))) (fun _ hk => hk.2) (.int .i64 ((rd_T71 ((rd_T68 l1 x30_1).f2) x37_2).f3))) (fun _ hk => trivial)⟩
                  have n1_ : Aside0 (((((w28.setCell ⟨gb203, 0, none⟩ (.int .i64 ((rd_T71 ((rd_T68 l1 x30_1).f2) x37_2).f0))).setCell ⟨gb203, 1, none⟩ (.int .i64 ((rd_T71 ((rd_T68 l1 x30_1).f2) x37_2).f1))).setCell ⟨gb203, 2, none⟩ (.int .i64 ((rd_T71 ((rd_T68 l1 x30_1).f2) x37_2).f2))).setCell ⟨gb203, 3, none⟩ (.int .i64 ((rd_T71 ((rd_T68 l1 x30_1).f2) x37_2).f3))).heap[gb195]? = some (.cells #[.int .i64 a0_0, .int .i64 a0_1, .int .i64 a0_2] 38 (0, 0))) := ⟨by (with_reducible repeat (first | refine blk_drewN ?_ _ | refine blk_drew ?_ | refine blk_alloc ?_ _)); refine blk_far ?_ NB195_203.out _; (with_reducible repeat (first | refine blk_drewN ?_ _ | refine blk_drew ?_ | refine blk_alloc ?_ _)); refine blk_far ?_ NB195_203.out _; (with_reducible repeat (first | refine blk_drewN ?_ _ | refine blk_drew ?_ | refine blk_alloc ?_ _)); refine blk_far ?_ NB195_203.out _; (with_reducible repeat (first | refine blk_drewN ?_ _ | refine blk_drew ?_ | refine blk_alloc ?_ _)); refine blk_far ?_ NB195_203.out _; (with_reducible repeat (first | refine blk_drewN ?_ _ | refine blk_drew ?_ | refine blk_alloc ?_ _)); exact BK195.out⟩
                  have n2_ : Aside0 (((((w28.setCell ⟨gb203, 0, none⟩ (.int .i64 ((rd_T71 ((rd_T68 l1 x30_1).f2) x37_2).f0))).setCell ⟨gb203, 1, none⟩ (.int .i64 ((rd_T71 ((rd_T68 l1 x30_1).f2) x37_2).f1))).setCell ⟨gb203, 2, none⟩ (.int .i64 ((rd_T71 ((rd_T68 l1 x30_1).f2) x37_2).f2))).setCell ⟨gb203, 3, none⟩ (.int .i64 ((rd_T71 ((rd_T68 l1 x30_1).f2) x37_2).f3))).heap[gb201]? = some (.cells #[.string ((rd_T68 l1 x30_1).f0), .int .i64 ((rd_T68 l1 x30_1).f1), .slice (some ad202) ((rd_T68 l1 x30_1).f2).length c200_2] 68 (0, 0))) := ⟨by (with_reducible repeat (first | refine blk_drewN ?_ _ | refine blk_drew ?_ | refine blk_alloc ?_ _)); refine blk_far ?_ NB201_203.out _; (with_reducible repeat (first | refine blk_drewN ?_ _ | refine blk_drew ?_ | refine blk_alloc ?_ _)); refine blk_far ?_ NB201_203.out _; (with_reducible repeat (first | refine blk_drewN ?_ _ | refine blk_drew ?_ | refine blk_alloc ?_ _)); refine blk_far ?_ NB201_203.out _; (with_reducible repeat (first | refine blk_drewN ?_ _ | refine blk_drew ?_ | refine blk_alloc ?_ _)); refine blk_far ?_ NB201_203.out _; (with_reducible repeat (first | refine blk_drewN ?_ _ | refine blk_drew ?_ | refine blk_alloc ?_ _)); exact BK201.out⟩
                  have n3_ : Aside0 (((((w28.setCell ⟨gb203, 0, none⟩ (.int .i64 ((rd_T71 ((rd_T68 l1 x30_1).f2) x37_2).f0))).setCell ⟨gb203, 1, none⟩ (.int .i64 ((rd_T71 ((rd_T68 l1 x30_1).f2) x37_2).f1))).setCell ⟨gb203, 2, none⟩ (.int .i64 ((rd_T71 ((rd_T68 l1 x30_1).f2) x37_2).f2))).setCell ⟨gb203, 3, none⟩ (.int .i64 ((rd_T71 ((rd_T68 l1 x30_1).f2) x37_2).f3))).heap[gb203]? = some (.cells #[.int .i64 ((rd_T71 ((rd_T68 l1 x30_1).f2) x37_2).f0), .int .i64 ((rd_T71 ((rd_T68 l1 x30_1).f2) x37_2).f1), .int .i64 ((rd_T71 ((rd_T68 l1 x30_1).f2) x37_2).f2), .int .i64 ((rd_T71 ((rd_T68 l1 x30_1).f2) x37_2).f3)] 71 (0, 0))) := ⟨by (with_reducible repeat (first | refine blk_drewN ?_ _ | refine blk_drew ?_ | refine blk_alloc ?_ _)); refine blk_put (cs := #[.int .i64 ((rd_T71 ((rd_T68 l1 x30_1).f2) x37_2).f0), .int .i64 ((rd_T71 ((rd_T68 l1 x30_1).f2) x37_2).f1), .int .i64 ((rd_T71 ((rd_T68 l1 x30_1).f2) x37_2).f2), .int .i64 0]) ?_ 3 _ rfl; (with_reducible repeat (first | refine blk_drewN ?_ _ | refine blk_drew ?_ | refine blk_alloc ?_ _)); refine blk_put (cs := #[.int .i64 ((rd_T71 ((rd_T68 l1 x30_1).f2) x37_2).f0), .int .i64 ((rd_T71 ((rd_T68 l1 x30_1).f2) x37_2).f1), .int .i64 0, .int .i64 0]) ?_ 2 _ rfl; (with_reducible repeat (first | refine blk_drewN ?_ _ | refine blk_drew ?_ | refine blk_alloc ?_ _)); refine blk_put (cs := #[.int .i64 ((rd_T71 ((rd_T68 l1 x30_1).f2) x37_2).f0), .int .i64 0, .int .i64 0, .int .i64 0]) ?_ 1 _ rfl; (with_reducible repeat (first | refine blk_drewN ?_ _ | refine blk_drew ?_ | refine blk_alloc ?_ _)); refine blk_put (cs := #[.int .i64 0, .int .i64 0, .int .i64 0, .int .i64 0]) ?_ 0 _ rfl; (with_reducible repeat (first | refine blk_drewN ?_ _ | refine blk_drew ?_ | refine blk_alloc ?_ _)); exact BK203.out⟩
                  have n4_ : Aside0 (Below w.heap.size w ((((w28.setCell ⟨gb203, 0, none⟩ (.int .i64 ((rd_T71 ((rd_T68 l1 x30_1).f2) x37_2).f0))).setCell ⟨gb203, 1, none⟩ (.int .i64 ((rd_T71 ((rd_T68 l1 x30_1).f2) x37_2).f1))).setCell ⟨gb203, 2, none⟩ (.int .i64 ((rd_T71 ((rd_T68 l1 x30_1).f2) x37_2).f2))).setCell ⟨gb203, 3, none⟩ (.int .i64 ((rd_T71 ((rd_T68 l1 x30_1).f2) x37_2).f3)))) := ⟨by repeat (first | (with_reducible first | exact HB.out | apply below_alloc | apply pw_below_drewN | apply below_drew1 | refine below_set ?_ GE195.out | refine below_set ?_ GE201.out | refine below_set ?_ GE203.out) | exact HB.out)⟩
                  (try clear HO_7)
                  (try clear BK195)
                  (try clear BK201)
                  (try clear BK203)
                  (try clear HB)
                  have mM_ : Aside0 ((((((w28.setCell ⟨gb203, 0, none⟩ (.int .i64 ((rd_T71 ((rd_T68 l1 x30_1).f2) x37_2).f0))).setCell ⟨gb203, 1, none⟩ (.int .i64 ((rd_T71 ((rd_T68 l1 x30_1).f2) x37_2).f1))).setCell ⟨gb203, 2, none⟩ (.int .i64 ((rd_T71 ((rd_T68 l1 x30_1).f2) x37_2).f2))).setCell ⟨gb203, 3, none⟩ (.int .i64 ((rd_T71 ((rd_T68 l1 x30_1).f2) x37_2).f3)))).heap[BM]? = some om) := ⟨(by (with_reducible repeat (first | refine blk_drewN ?_ _ | refine blk_drew ?_ | refine blk_alloc ?_ _ | refine Seen.obj_far ?_ GNE195.out _ | refine Seen.obj_far ?_ GNE201.out _ | refine Seen.obj_far ?_ GNE203.out _)); exact BKM.out)⟩
                  clear BKM
                  have BKM := mM_
                  clear mM_
                  generalize ((((w28.setCell ⟨gb203, 0, none⟩ (.int .i64 ((rd_T71 ((rd_T68 l1 x30_1).f2) x37_2).f0))).setCell ⟨gb203, 1, none⟩ (.int .i64 ((rd_T71 ((rd_T68 l1 x30_1).f2) x37_2).f1))).setCell ⟨gb203, 2, none⟩ (.int .i64 ((rd_T71 ((rd_T68 l1 x30_1).f2) x37_2).f2))).setCell ⟨gb203, 3, none⟩ (.int .i64 ((rd_T71 ((rd_T68 l1 x30_1).f2) x37_2).f3))) = w32 at n0_ n1_ n2_ n3_ n4_ BKM ⊢
                  have HO_7 := n0_
                  have BK195 := n1_
                  have BK201 := n2_
                  have BK203 := n3_
                  have HB := n4_
                  clear n0_ n1_ n2_ n3_ n4_
                  have n0_ := Aside0.mk (Kd.R_drew HO_7.out)
                  have n1_ := Aside0.mk (blk_drew BK195.out)
                  have n2_ := Aside0.mk (blk_drew BK201.out)
                  have n3_ := Aside0.mk (blk_drew BK203.out)
                  have n4_ := Aside0.mk (below_drew1 HB.out)
                  clear HO_7
                  clear BK195
                  clear BK201
                  clear BK203
                  clear HB
                  have HO_7 := n0_
                  have BK195 := n1_
                  have BK201 := n2_
                  have BK203 := n3_
                  have HB := n4_
                  clear n0_ n1_ n2_ n3_ n4_
                  obtain ⟨Ao34, co34, eo34⟩ := Kd.R_slice HO_7.out
                  (first | subst eo34 | (injection eo34 with f1_ f2_ f3_; have f4_ := f1_.symm; have f5_ := f3_.symm; clear f1_ f2_ f3_; subst f4_; subst f5_))
                  have p204 : 0 ≤ (((rd_T71 ((rd_T68 l1 x30_1).f2) x37_2).f0) : Int) := of_decide_eq_true (by first | (with_reducible assumption) | assumption)
                  have q204 : ((rd_T71 ((rd_T68 l1 x30_1).f2) x37_2).f0) < (x7_2.length : Int) := of_decide_eq_true (by first | (with_reducible assumption) | assumption)
                  obtain ⟨ad204, e204, hx204_0⟩ := Kd.at_int (Kd.R_reads' HO_7.out).2.2 ((rd_T71 ((rd_T68 l1 x30_1).f2) x37_2).f0) p204 q204
                  cases e204
                  replace p204 := eq_true p204
                  replace q204 := eq_true q204
                  have p26 : 0 ≤ (((rd_T71 ((rd_T68 l1 x30_1).f2) x37_2).f0) : Int) := of_decide_eq_true (by first | (with_reducible assumption) | assumption)
                  have q26 : (((rd_T71 ((rd_T68 l1 x30_1).f2) x37_2).f0) : Int) < ((x7_2.length : Int) : Int) := of_decide_eq_true (by first | (with_reducible assumption) | assumption)
                  obtain ⟨go26, co26, eo26, gb26, gl26, cl26, HG26⟩ := Kd.R_form HO_7.out (by omega)
                  (first | cases eo26 | (injection eo26 with ea_ en_ ec_; (first | subst ea_ | (injection ea_ with ea_; subst ea_)); subst ec_; clear en_))
                  have GB26 := Aside0.mk gb26
                  have GG26 := Aside0.mk HG26
                  have GNEgo26 := Aside0.mk (pair_ne_cells HS.out GG26.out (by (with_reducible repeat (first | refine blk_drewN ?_ _ | refine blk_drew ?_ | refine blk_alloc ?_ _ | refine Seen.obj_far ?_ GNE195.out _ | refine Seen.obj_far ?_ GNE201.out _ | refine Seen.obj_far ?_ GNE203.out _)); exact BKM.out))
                  clear gb26 gl26 HG26
                  (first | simp only [add_plain] at hx204_0 | skip)
                  obtain ⟨hx26_0, hf26_0⟩ := Kd.R_celln 0 HO_7.out (((rd_T71 ((rd_T68 l1 x30_1).f2) x37_2).f0) : Int) p26 q26
                  replace p26 := eq_true p26
                  replace q26 := eq_true q26
                  have HP35 := Kd.R_putn HO_7.out (((rd_T71 ((rd_T68 l1 x30_1).f2) x37_2).f0) : Int) (wrap64 ((rd x7_2 ((rd_T71 ((rd_T68 l1 x30_1).f2) x37_2).f0)) + ((rd_T71 ((rd_T68 l1 x30_1).f2) x37_2).f1)))
                  rw [← Ny205.out] at HP35
                  have HQ35 := Aside0.mk HP35
                  clear HP35
                  refine start_ (n := 10) (S := fun w' => w'.cell? ⟨gb203, 0, none⟩ = some (.int .i64 ((rd_T71 ((rd_T68 l1 x30_1).f2) x37_2).f0)) ∧ w'.cell? ⟨gb203, 1, none⟩ = some (.int .i64 ((rd_T71 ((rd_T68 l1 x30_1).f2) x37_2).f1)) ∧ w'.cell? ⟨gb203, 2, none⟩ = some (.int .i64 ((rd_T71 ((rd_T68 l1 x30_1).f2) x37_2).f2)) ∧ w'.cell? ⟨gb203, 3, none⟩ = some (.int .i64 ((rd_T71 ((rd_T68 l1 x30_1).f2) x37_2).f3)) ∧ w'.cell? ⟨go26, (((rd_T71 ((rd_T68 l1 x30_1).f2) x37_2).f0)).toNat, none⟩ = some (.int .i64 (rd x7_2 ((rd_T71 ((rd_T68 l1 x30_1).f2) x37_2).f0)))) (ds := [9]) #[false, false, false, false, false, false, false, false, false, false] (by kernel_rfl) rfl rfl ⟨(blk_cell BK203.out 0).trans rfl, (blk_cell BK203.out 1).trans rfl, (blk_cell BK203.out 2).trans rfl, (blk_cell BK203.out 3).trans rfl, hx204_0⟩ (fun hHeld => ?_); refine with_tabW impl_Bound.tab16 impl_Bound.bits16 (fun HT_ HW_ => ?_)
                  have mM_ : Aside0 ((w32.drew).heap[BM]? = some om) := ⟨(by (with_reducible repeat (first | refine blk_drewN ?_ _ | refine blk_drew ?_ | refine blk_alloc ?_ _ | refine Seen.obj_far ?_ GNE195.out _ | refine Seen.obj_far ?_ GNE201.out _ | refine Seen.obj_far ?_ GNE203.out _ | refine Seen.obj_far ?_ GNEgo26.out _)); exact BKM.out)⟩
                  clear BKM
                  have BKM := mM_
                  clear mM_
                  generalize w32.drew = w33 at HO_7 BK195 BK201 BK203 HB GG26 HQ35 hf26_0 hx204_0 hx26_0 hHeld BKM ⊢
                  refine pure_ (i := 0) (N := some 45) (v := ?_) (a' := ?_) #[true, false, false, false, false, false, false, false, false, false] rfl rfl (any_of HT_.out (by kernel_rfl)) (fun _ _ _ h => h) (Or.inl ⟨by rfl, ?_⟩) ?_ ?_
                  rotate_left
                  ·intro w'
                   go_simp
                   with_reducible rfl
                  rotate_left
                  ·simp only [Act.put, List.setIfInBounds_toArray, List.set_cons_zero, List.set_cons_succ, i64_w, i32_w]
                   rfl
                  refine pure_ (i := 1) (N := some 46) (v := ?_) (a' := ?_) #[true, true, false, false, false, false, false, false, false, false] rfl rfl (any_of HT_.out (by kernel_rfl)) (fun _ _ _ h => h) (Or.inl ⟨by rfl, ?_⟩) ?_ ?_
                  rotate_left
                  ·intro w'
                   go_simp
                   with_reducible rfl
                  rotate_left
                  ·simp only [Act.put, List.setIfInBounds_toArray, List.set_cons_zero, List.set_cons_succ, i64_w, i32_w]
                   rfl
                  refine pure_ (i := 5) (N := some 50) (v := ?_) (a' := ?_) #[true, true, false, false, false, true, false, false, false, false] rfl rfl (any_of HT_.out (by kernel_rfl)) (fun _ _ _ h => h) (Or.inl ⟨by rfl, ?_⟩) ?_ ?_
                  rotate_left
                  ·intro w'
                   go_simp
                   with_reducible rfl
                  rotate_left
                  ·simp only [Act.put, List.setIfInBounds_toArray, List.set_cons_zero, List.set_cons_succ, i64_w, i32_w]
                   rfl
                  refine take_ (i := 2) (N := some 47) (v := ?_) (a' := ?_) #[true, true, true, false, false, true, false, false, false, false] rfl rfl (take_ofW HT_.out HW_.out (by kernel_rfl)) (fun _ _ _ h => h) (Or.inl ⟨by rfl, ?_⟩) hHeld ?_ ?_
                  rotate_left
                  ·rintro w' ⟨s0, s1, s2, s3, s4⟩
                   go_simp
                   with_reducible rfl
                  rotate_left
                  ·simp only [Act.put, List.setIfInBounds_toArray, List.set_cons_zero, List.set_cons_succ, i64_w, i32_w]
                   rfl
                  refine pure_ (i := 3) (N := some 48) (v := ?_) (a' := ?_) #[true, true, true, true, false, true, false, false, false, false] rfl rfl (any_of HT_.out (by kernel_rfl)) (fun _ _ _ h => h) (Or.inl ⟨by rfl, ?_⟩) ?_ ?_
                  rotate_left
                  ·intro w'
                   go_simp
                   with_reducible rfl
                  rotate_left
                  ·simp only [Act.put, List.setIfInBounds_toArray, List.set_cons_zero, List.set_cons_succ, i64_w, i32_w]
                   rfl
                  refine take_ (i := 4) (N := some 49) (v := ?_) (a' := ?_) #[true, true, true, true, true, true, false, false, false, false] rfl rfl (take_ofW HT_.out HW_.out (by kernel_rfl)) (fun _ _ _ h => h) (Or.inl ⟨by rfl, ?_⟩) hHeld ?_ ?_
                  rotate_left
                  ·rintro w' ⟨s0, s1, s2, s3, s4⟩
                   go_simp
                   with_reducible rfl
                  rotate_left
                  ·simp only [Act.put, List.setIfInBounds_toArray, List.set_cons_zero, List.set_cons_succ, i64_w, i32_w]
                   rfl
                  refine take_ (i := 6) (N := some 51) (v := ?_) (a' := ?_) #[true, true, true, true, true, true, true, false, false, false] rfl rfl (take_ofW HT_.out HW_.out (by kernel_rfl)) (fun _ _ _ h => h) (Or.inl ⟨by rfl, ?_⟩) hHeld ?_ ?_
                  rotate_left
                  ·rintro w' ⟨s0, s1, s2, s3, s4⟩
                   go_simp
                   with_reducible rfl
                  rotate_left
                  ·simp only [Act.put, List.setIfInBounds_toArray, List.set_cons_zero, List.set_cons_succ, i64_w, i32_w]
                   rfl
                  refine pure_ (i := 7) (N := some 52) (v := ?_) (a' := ?_) #[true, true, true, true, true, true, true, true, false, false] rfl rfl (any_of HT_.out (by kernel_rfl)) (fun _ _ _ h => h) (Or.inl ⟨by rfl, ?_⟩) ?_ ?_
                  rotate_left
                  ·intro w'
                   go_simp
                   with_reducible rfl
                  rotate_left
                  ·simp only [Act.put, List.setIfInBounds_toArray, List.set_cons_zero, List.set_cons_succ, i64_w, i32_w]
                   rfl
                  refine pure_ (i := 8) (N := some 53) (v := ?_) (a' := ?_) #[true, true, true, true, true, true, true, true, true, false] rfl rfl (any_of HT_.out (by kernel_rfl)) (fun _ _ _ h => h) (Or.inl ⟨by rfl, ?_⟩) ?_ ?_
                  rotate_left
                  ·intro w'
                   go_simp
                   with_reducible rfl
                  rotate_left
                  ·simp only [Act.put, List.setIfInBounds_toArray, List.set_cons_zero, List.set_cons_succ, i64_w, i32_w]
                   rfl
                  refine last_ (i := 9) (N := none) #[true, true, true, true, true, true, true, true, true, true] rfl rfl (one_of HT_.out (by kernel_rfl)) (by decide) (fun K hK => ?_)
                  refine skip_ (w1 := ?_) (by rfl) rfl ?_ ?_
                  rotate_left
                  ·go_simp
                   rfl
                  refine hK.out _ _ ?_
                  clear hK K
                  refine done_ (done_of HT_.out (by kernel_rfl)) ?_
                  have n0_ : Aside0 (Kd.R (Kd.int .i64) 3 (w33.setCell ⟨go26, (((rd_T71 ((rd_T68 l1 x30_1).f2) x37_2).f0) : Int).toNat, none⟩ (.int .i64 (wrap64 ((rd x7_2 ((rd_T71 ((rd_T68 l1 x30_1).f2) x37_2).f0)) + ((rd_T71 ((rd_T68 l1 x30_1).f2) x37_2).f1))))) w.heap.size (fun _ => True) (.slice (some ⟨go26, 0, none⟩) x7_2.length co34) y205) := ⟨by (with_reducible repeat (first | apply Kd.R_alloc | apply Kd.R_drewN | apply Kd.R_drew)); exact HQ35.out⟩
                  have n1_ : Aside0 ((w33.setCell ⟨go26, (((rd_T71 ((rd_T68 l1 x30_1).f2) x37_2).f0) : Int).toNat, none⟩ (.int .i64 (wrap64 ((rd x7_2 ((rd_T71 ((rd_T68 l1 x30_1).f2) x37_2).f0)) + ((rd_T71 ((rd_T68 l1 x30_1).f2) x37_2).f1))))).heap[gb195]? = some (.cells #[.int .i64 a0_0, .int .i64 a0_1, .int .i64 a0_2] 38 (0, 0))) := ⟨by (with_reducible repeat (first | refine blk_drewN ?_ _ | refine blk_drew ?_ | refine blk_alloc ?_ _)); refine blk_far ?_ (by have h_ := Kd.R_ne HO_7.out BK195.out (by decide); intro e_; exact h_ (by rw [e_]; rfl)) _; (with_reducible repeat (first | refine blk_drewN ?_ _ | refine blk_drew ?_ | refine blk_alloc ?_ _)); exact BK195.out⟩
                  have n2_ : Aside0 ((w33.setCell ⟨go26, (((rd_T71 ((rd_T68 l1 x30_1).f2) x37_2).f0) : Int).toNat, none⟩ (.int .i64 (wrap64 ((rd x7_2 ((rd_T71 ((rd_T68 l1 x30_1).f2) x37_2).f0)) + ((rd_T71 ((rd_T68 l1 x30_1).f2) x37_2).f1))))).heap[gb201]? = some (.cells #[.string ((rd_T68 l1 x30_1).f0), .int .i64 ((rd_T68 l1 x30_1).f1), .slice (some ad202) ((rd_T68 l1 x30_1).f2).length c200_2] 68 (0, 0))) := ⟨by (with_reducible repeat (first | refine blk_drewN ?_ _ | refine blk_drew ?_ | refine blk_alloc ?_ _)); refine blk_far ?_ (by have h_ := Kd.R_ne HO_7.out BK201.out (by decide); intro e_; exact h_ (by rw [e_]; rfl)) _; (with_reducible repeat (first | refine blk_drewN ?_ _ | refine blk_drew ?_ | refine blk_alloc ?_ _)); exact BK201.out⟩
                  have n3_ : Aside0 ((w33.setCell ⟨go26, (((rd_T71 ((rd_T68 l1 x30_1).f2) x37_2).f0) : Int).toNat, none⟩ (.int .i64 (wrap64 ((rd x7_2 ((rd_T71 ((rd_T68 l1 x30_1).f2) x37_2).f0)) + ((rd_T71 ((rd_T68 l1 x30_1).f2) x37_2).f1))))).heap[gb203]? = some (.cells #[.int .i64 ((rd_T71 ((rd_T68 l1 x30_1).f2) x37_2).f0), .int .i64 ((rd_T71 ((rd_T68 l1 x30_1).f2) x37_2).f1), .int .i64 ((rd_T71 ((rd_T68 l1 x30_1).f2) x37_2).f2), .int .i64 ((rd_T71 ((rd_T68 l1 x30_1).f2) x37_2).f3)] 71 (0, 0))) := ⟨by (with_reducible repeat (first | refine blk_drewN ?_ _ | refine blk_drew ?_ | refine blk_alloc ?_ _)); refine blk_far ?_ (by have h_ := Kd.R_ne HO_7.out BK203.out (by decide); intro e_; exact h_ (by rw [e_]; rfl)) _; (with_reducible repeat (first | refine blk_drewN ?_ _ | refine blk_drew ?_ | refine blk_alloc ?_ _)); exact BK203.out⟩
                  have n4_ : Aside0 (Below w.heap.size w (w33.setCell ⟨go26, (((rd_T71 ((rd_T68 l1 x30_1).f2) x37_2).f0) : Int).toNat, none⟩ (.int .i64 (wrap64 ((rd x7_2 ((rd_T71 ((rd_T68 l1 x30_1).f2) x37_2).f0)) + ((rd_T71 ((rd_T68 l1 x30_1).f2) x37_2).f1)))))) := ⟨by repeat (first | (with_reducible first | exact HB.out | apply below_alloc | apply pw_below_drewN | apply below_drew1 | refine below_set ?_ GB26.out | refine below_set ?_ GE195.out | refine below_set ?_ GE201.out | refine below_set ?_ GE203.out) | exact HB.out)⟩
                  (try clear HO_7)
                  (try clear BK195)
                  (try clear BK201)
                  (try clear BK203)
                  (try clear HB)
                  have mM_ : Aside0 (((w33.setCell ⟨go26, (((rd_T71 ((rd_T68 l1 x30_1).f2) x37_2).f0) : Int).toNat, none⟩ (.int .i64 (wrap64 ((rd x7_2 ((rd_T71 ((rd_T68 l1 x30_1).f2) x37_2).f0)) + ((rd_T71 ((rd_T68 l1 x30_1).f2) x37_2).f1)))))).heap[BM]? = some om) := ⟨(by (with_reducible repeat (first | refine blk_drewN ?_ _ | refine blk_drew ?_ | refine blk_alloc ?_ _ | refine Seen.obj_far ?_ GNE195.out _ | refine Seen.obj_far ?_ GNE201.out _ | refine Seen.obj_far ?_ GNE203.out _ | refine Seen.obj_far ?_ GNEgo26.out _)); exact BKM.out)⟩
                  clear BKM
                  have BKM := mM_
                  clear mM_
                  generalize (w33.setCell ⟨go26, (((rd_T71 ((rd_T68 l1 x30_1).f2) x37_2).f0) : Int).toNat, none⟩ (.int .i64 (wrap64 ((rd x7_2 ((rd_T71 ((rd_T68 l1 x30_1).f2) x37_2).f0)) + ((rd_T71 ((rd_T68 l1 x30_1).f2) x37_2).f1))))) = w36 at n0_ n1_ n2_ n3_ n4_ BKM ⊢
                  have HO_7 := n0_
                  have BK195 := n1_
                  have BK201 := n2_
                  have BK203 := n3_
                  have HB := n4_
                  clear n0_ n1_ n2_ n3_ n4_
                  have hcz37_0 : w36.cell? ⟨gb203, 0, none⟩ = some (.int .i64 ((rd_T71 ((rd_T68 l1 x30_1).f2) x37_2).f0)) := (blk_cell BK203.out 0).trans rfl
                  have hcz37_1 : w36.cell? ⟨gb203, 1, none⟩ = some (.int .i64 ((rd_T71 ((rd_T68 l1 x30_1).f2) x37_2).f1)) := (blk_cell BK203.out 1).trans rfl
                  have hcz37_2 : w36.cell? ⟨gb203, 2, none⟩ = some (.int .i64 ((rd_T71 ((rd_T68 l1 x30_1).f2) x37_2).f2)) := (blk_cell BK203.out 2).trans rfl
                  have hcz37_3 : w36.cell? ⟨gb203, 3, none⟩ = some (.int .i64 ((rd_T71 ((rd_T68 l1 x30_1).f2) x37_2).f3)) := (blk_cell BK203.out 3).trans rfl
                  have hfz37_0 := blk_frozen BK203.out 0
                  have hfz37_1 := blk_frozen BK203.out 1
                  have hfz37_2 := blk_frozen BK203.out 2
                  have hfz37_3 := blk_frozen BK203.out 3
                  try go_wp2_with (first | ((with_reducible refine gate_dst (N := 14) rfl ?_); refine box_event ?hg (N := 14) ?hd (cs := #[.int .i64 0, .int .i64 0]) (t := 77) ?hr ?_; (case hd => rfl); (case hg => rfl); (case hr => first | (go_simp; done) | (go_simp; rfl)); intro gb206 hg w38 hbox hb; have n0_ := Aside0.mk (Kd.R_below (by (with_reducible repeat (first | apply Kd.R_alloc | apply Kd.R_drewN | apply Kd.R_drew)); exact HO_7.out) hb); have n1_ := Aside0.mk (blk_below (g := gb195) (o := .cells #[.int .i64 a0_0, .int .i64 a0_1, .int .i64 a0_2] 38 (0, 0)) (by (with_reducible repeat (first | refine blk_drewN ?_ _ | refine blk_drew ?_ | refine blk_alloc ?_ _)); exact BK195.out) hb); have n2_ := Aside0.mk (blk_below (g := gb201) (o := .cells #[.string ((rd_T68 l1 x30_1).f0), .int .i64 ((rd_T68 l1 x30_1).f1), .slice (some ad202) ((rd_T68 l1 x30_1).f2).length c200_2] 68 (0, 0)) (by (with_reducible repeat (first | refine blk_drewN ?_ _ | refine blk_drew ?_ | refine blk_alloc ?_ _)); exact BK201.out) hb); have n3_ := Aside0.mk (blk_below (g := gb203) (o := .cells #[.int .i64 ((rd_T71 ((rd_T68 l1 x30_1).f2) x37_2).f0), .int .i64 ((rd_T71 ((rd_T68 l1 x30_1).f2) x37_2).f1), .int .i64 ((rd_T71 ((rd_T68 l1 x30_1).f2) x37_2).f2), .int .i64 ((rd_T71 ((rd_T68 l1 x30_1).f2) x37_2).f3)] 71 (0, 0)) (by (with_reducible repeat (first | refine blk_drewN ?_ _ | refine blk_drew ?_ | refine blk_alloc ?_ _)); exact BK203.out) hb); have n4_ := Aside0.mk (below_step (by repeat (first | (with_reducible first | exact HB.out | apply below_alloc | apply pw_below_drewN | apply below_drew1 | refine below_set ?_ GE195.out | refine below_set ?_ GE201.out | refine below_set ?_ GE203.out) | exact HB.out)) hb); have n5_ := Aside0.mk (hbox); have n6_ := Aside0.mk ((by rw [hg]; exact (below_size (by repeat (first | (with_reducible first | exact HB.out | apply below_alloc | apply pw_below_drewN | apply below_drew1 | refine below_set ?_ GE195.out | refine below_set ?_ GE201.out | refine below_set ?_ GE203.out) | exact HB.out))) : w.heap.size ≤ gb206)); have n7_ := Aside0.mk ((by rw [hg]; exact (below_size (by repeat (first | (with_reducible first | exact HB.out | apply below_alloc | apply pw_below_drewN | apply below_drew1 | refine below_set ?_ GE195.out | refine below_set ?_ GE201.out | refine below_set ?_ GE203.out) | exact HB.out))) : w.heap.size ≤ gb206)); have n8_ := Aside0.mk ((by rw [hg]; exact Nat.ne_of_lt (blk_lt (g := gb195) (o := .cells #[.int .i64 a0_0, .int .i64 a0_1, .int .i64 a0_2] 38 (0, 0)) (by (with_reducible repeat (first | refine blk_drewN ?_ _ | refine blk_drew ?_ | refine blk_alloc ?_ _)); exact BK195.out)) : gb195 ≠ gb206)); have n9_ := Aside0.mk ((by rw [hg]; exact Nat.ne_of_gt (blk_lt (g := gb195) (o := .cells #[.int .i64 a0_0, .int .i64 a0_1, .int .i64 a0_2] 38 (0, 0)) (by (with_reducible repeat (first | refine blk_drewN ?_ _ | refine blk_drew ?_ | refine blk_alloc ?_ _)); exact BK195.out)) : gb206 ≠ gb195)); have n10_ := Aside0.mk ((by rw [hg]; exact Nat.ne_of_lt (blk_lt (g := gb201) (o := .cells #[.string ((rd_T68 l1 x30_1).f0), .int .i64 ((rd_T68 l1 x30_1).f1), .slice (some ad202) ((rd_T68 l1 x30_1).f2).length c200_2] 68 (0, 0)) (by (with_reducible repeat (first | refine blk_drewN ?_ _ | refine blk_drew ?_ | refine blk_alloc ?_ _)); exact BK201.out)) : gb201 ≠ gb206)); have n11_ := Aside0.mk ((by rw [hg]; exact Nat.ne_of_gt (blk_lt (g := gb201) (o := .cells #[.string ((rd_T68 l1 x30_1).f0), .int .i64 ((rd_T68 l1 x30_1).f1), .slice (some ad202) ((rd_T68 l1 x30_1).f2).length c200_2] 68 (0, 0)) (by (with_reducible repeat (first | refine blk_drewN ?_ _ | refine blk_drew ?_ | refine blk_alloc ?_ _)); exact BK201.out)) : gb206 ≠ gb201)); have n12_ := Aside0.mk ((by rw [hg]; exact Nat.ne_of_lt (blk_lt (g := gb203) (o := .cells #[.int .i64 ((rd_T71 ((rd_T68 l1 x30_1).f2) x37_2).f0), .int .i64 ((rd_T71 ((rd_T68 l1 x30_1).f2) x37_2).f1), .int .i64 ((rd_T71 ((rd_T68 l1 x30_1).f2) x37_2).f2), .int .i64 ((rd_T71 ((rd_T68 l1 x30_1).f2) x37_2).f3)] 71 (0, 0)) (by (with_reducible repeat (first | refine blk_drewN ?_ _ | refine blk_drew ?_ | refine blk_alloc ?_ _)); exact BK203.out)) : gb203 ≠ gb206)); have n13_ := Aside0.mk ((by rw [hg]; exact Nat.ne_of_gt (blk_lt (g := gb203) (o := .cells #[.int .i64 ((rd_T71 ((rd_T68 l1 x30_1).f2) x37_2).f0), .int .i64 ((rd_T71 ((rd_T68 l1 x30_1).f2) x37_2).f1), .int .i64 ((rd_T71 ((rd_T68 l1 x30_1).f2) x37_2).f2), .int .i64 ((rd_T71 ((rd_T68 l1 x30_1).f2) x37_2).f3)] 71 (0, 0)) (by (with_reducible repeat (first | refine blk_drewN ?_ _ | refine blk_drew ?_ | refine blk_alloc ?_ _)); exact BK203.out)) : gb206 ≠ gb203)); clear HO_7; clear BK195; clear BK201; clear BK203; clear HB; have HO_7 := n0_; have BK195 := n1_; have BK201 := n2_; have BK203 := n3_; have HB := n4_; have BK206 := n5_; have GW206 := n6_; have GE206 := n7_; have NB195_206 := n8_; have NB206_195 := n9_; have NB201_206 := n10_; have NB206_201 := n11_; have NB203_206 := n12_; have NB206_203 := n13_; clear n0_ n1_ n2_ n3_ n4_ n5_ n6_ n7_ n8_ n9_ n10_ n11_ n12_ n13_; have m0_ := Aside0.mk (blk_below (g := BM) (o := om) (by (with_reducible repeat (first | refine blk_drewN ?_ _ | refine blk_drew ?_ | refine blk_alloc ?_ _ | refine Seen.obj_far ?_ GNE195.out _ | refine Seen.obj_far ?_ GNE201.out _ | refine Seen.obj_far ?_ GNE203.out _ | refine Seen.obj_far ?_ GNEgo26.out _)); exact BKM.out) hb); have m1_ := Aside0.mk (show BM ≠ gb206 from Nat.ne_of_lt (by rw [hg]; exact blk_lt (o := om) (by (with_reducible repeat (first | refine blk_drewN ?_ _ | refine blk_drew ?_ | refine blk_alloc ?_ _ | refine Seen.obj_far ?_ GNE195.out _ | refine Seen.obj_far ?_ GNE201.out _ | refine Seen.obj_far ?_ GNE203.out _ | refine Seen.obj_far ?_ GNEgo26.out _)); exact BKM.out))); clear BKM; have BKM := m0_; have GNE206 := m1_; clear m0_ m1_; clear hb hbox hg; have hnb39 := NB206_195.out; have hnc39 := NB195_206.out; have hnb40 := NB206_201.out; have hnc40 := NB201_206.out; have hnb41 := NB206_203.out; have hnc41 := NB203_206.out; have hcz42_0 : w38.cell? ⟨gb206, 0, none⟩ = some (.int .i64 0) := (blk_cell BK206.out 0).trans rfl; have hcz42_1 : w38.cell? ⟨gb206, 1, none⟩ = some (.int .i64 0) := (blk_cell BK206.out 1).trans rfl; have hfz42_0 := blk_frozen BK206.out 0; have hfz42_1 := blk_frozen BK206.out 1) | ((with_reducible refine gate_ (Op.lookup 76 (.tmp 59) (.tmp 60) false) rfl ?_); (try (refine gate_guard (by rfl) ?_; dsimp only)); refine wpList_lookup_pair rfl rfl Tryd.underlying76 Tryd.underlying4 (by kernel_rfl) BM x8_2 om (by (with_reducible repeat (first | refine blk_drewN ?_ _ | refine blk_drew ?_ | refine blk_alloc ?_ _ | refine Seen.obj_far ?_ GNE195.out _ | refine Seen.obj_far ?_ GNE201.out _ | refine Seen.obj_far ?_ GNE203.out _ | refine Seen.obj_far ?_ GNEgo26.out _ | refine Seen.obj_far ?_ GNE206.out _)); exact BKM.out) HS.out ((rd_T71 ((rd_T68 l1 x30_1).f2) x37_2).f0) ((rd_T71 ((rd_T68 l1 x30_1).f2) x37_2).f2) KS.out rfl (by first | rfl | (go_simp; done) | (go_simp; rfl)) ?_; (try rw [c27b0])))
                  go_roundg k2
                  case measure => have := HK1.out; have := HK2.out; omega
                  case rel => exact ⟨(y205), (x8_2), (wrap64 (x11_2 + ((rd_T71 ((rd_T68 l1 x30_1).f2) x37_2).f1))), (wrap64 (x37_2 + 1)), (by first | rfl | (simp; done) | (simp [*]; done)), (by first | rfl | (simp; done) | (simp [*]; done)), H', ⟨by have := HK1.out; have := HK2.out; omega⟩, ⟨by (with_reducible repeat (first | apply Kd.R_alloc | apply Kd.R_drewN | apply Kd.R_drew)); exact Kd.R_mono (Kd.R_far (p := ⟨gb206, 1, none⟩) (Kd.R_far (p := ⟨gb206, 0, none⟩) (Kd.R_types HO_7.out BK206.out (by decide)) (fun _ hk => hk.2) (.int .i64 ((rd_T71 ((rd_T68 l1 x30_1).f2) x37_2).f0))) (fun _ hk => hk.2) (.int .i64 ((rd_T71 ((rd_T68 l1 x30_1).f2) x37_2).f2))) (fun _ hk => trivial)⟩, ⟨by (with_reducible repeat (first | refine blk_drewN ?_ _ | refine blk_drew ?_ | refine blk_alloc ?_ _)); refine blk_far ?_ NB195_206.out _; (with_reducible repeat (first | refine blk_drewN ?_ _ | refine blk_drew ?_ | refine blk_alloc ?_ _)); refine blk_far ?_ NB195_206.out _; (with_reducible repeat (first | refine blk_drewN ?_ _ | refine blk_drew ?_ | refine blk_alloc ?_ _)); exact BK195.out⟩, ⟨by (with_reducible repeat (first | refine blk_drewN ?_ _ | refine blk_drew ?_ | refine blk_alloc ?_ _)); refine blk_far ?_ NB201_206.out _; (with_reducible repeat (first | refine blk_drewN ?_ _ | refine blk_drew ?_ | refine blk_alloc ?_ _)); refine blk_far ?_ NB201_206.out _; (with_reducible repeat (first | refine blk_drewN ?_ _ | refine blk_drew ?_ | refine blk_alloc ?_ _)); exact BK201.out⟩, ⟨⟨_, (by (with_reducible repeat (first | refine blk_drewN ?_ _ | refine blk_drew ?_ | refine blk_alloc ?_ _ | refine Seen.obj_far ?_ GNE195.out _ | refine Seen.obj_far ?_ GNE201.out _ | refine Seen.obj_far ?_ GNE203.out _ | refine Seen.obj_far ?_ GNEgo26.out _ | refine Seen.obj_far ?_ GNE206.out _)); exact BKM.out), HS.out⟩⟩, ⟨by repeat (first | (with_reducible first | exact HB.out | apply below_alloc | apply pw_below_drewN | apply below_drew1 | refine below_set ?_ GE195.out | refine below_set ?_ GE201.out | refine below_set ?_ GE203.out | refine below_set ?_ GE206.out) | exact HB.out)⟩⟩
                 ·rw [if_neg c27] at H
                  have c27b0 : inP x8_2 ((rd_T71 ((rd_T68 l1 x30_1).f2) x37_2).f0) ((rd_T71 ((rd_T68 l1 x30_1).f2) x37_2).f2) = false := Bool.eq_false_iff.mpr c27
                  clear c27
                  obtain ⟨y208, hy208⟩ : ∃ y_ : List Int, y_ = (y205.set (((rd_T71 ((rd_T68 l1 x30_1).f2) x37_2).f0) : Int).toNat (wrap64 ((rd y205 ((rd_T71 ((rd_T68 l1 x30_1).f2) x37_2).f0)) + a0_1))) := ⟨_, rfl⟩
                  replace H : (impl_Bound.l1 k2 x6_1 y208 (x8_2 ++ [(((rd_T71 ((rd_T68 l1 x30_1).f2) x37_2).f0), ((rd_T71 ((rd_T68 l1 x30_1).f2) x37_2).f2))]) (wrap64 (x11_2 + ((rd_T71 ((rd_T68 l1 x30_1).f2) x37_2).f1))) l1 (l1.length : Int) x30_1 ((rd_T68 l1 x30_1).f2) (((rd_T68 l1 x30_1).f2).length : Int) (wrap64 (x37_2 + 1)) a0_0 a0_1 a0_2) = some (r1, r2) := by first | (rw [hy208]; with_reducible exact H) | (have H2_ := (Option.bind_some _ _).symm.trans H; rw [hy208]; with_reducible exact H2_) | (have H2_ := (Option.bind_some _ _).symm.trans H; with_reducible exact H2_) | with_reducible exact H | (rw [hy208]; exact H) | exact H
                  have Ny208 := Aside0.mk hy208
                  clear hy208
                  have H' := Aside0.mk H
                  clear H
                  have p202 : 0 ≤ (x37_2 : Int) := of_decide_eq_true (by first | (with_reducible assumption) | assumption)
                  have q202 : x37_2 < (((rd_T68 l1 x30_1).f2).length : Int) := of_decide_eq_true (by first | (with_reducible assumption) | assumption)
                  obtain ⟨ad202, e202, hx202_0, hx202_1, hx202_2, hx202_3⟩ := at_T71 HR200_2.out x37_2 p202 q202
                  cases e202
                  replace hx202_0 := (HB.out.cell (World.block_lt_of_cell? w _ hx202_0)).trans hx202_0
                  replace hx202_1 := (HB.out.cell (World.block_lt_of_cell? w _ hx202_1)).trans hx202_1
                  replace hx202_2 := (HB.out.cell (World.block_lt_of_cell? w _ hx202_2)).trans hx202_2
                  replace hx202_3 := (HB.out.cell (World.block_lt_of_cell? w _ hx202_3)).trans hx202_3
                  replace p202 := eq_true p202
                  replace q202 := eq_true q202
                  try go_wp2_with (first | ((with_reducible refine gate_dst (N := 13) rfl ?_); refine box_event ?hg (N := 13) ?hd (cs := #[.int .i64 0, .int .i64 0, .int .i64 0, .int .i64 0]) (t := 71) ?hr ?_; (case hd => rfl); (case hg => rfl); (case hr => first | (go_simp; done) | (go_simp; rfl)); intro gb203 hg w44 hbox hb; have n0_ := Aside0.mk (Kd.R_below (by (with_reducible repeat (first | apply Kd.R_alloc | apply Kd.R_drewN | apply Kd.R_drew)); exact HO_7.out) hb); have n1_ := Aside0.mk (blk_below (g := gb195) (o := .cells #[.int .i64 a0_0, .int .i64 a0_1, .int .i64 a0_2] 38 (0, 0)) (by (with_reducible repeat (first | refine blk_drewN ?_ _ | refine blk_drew ?_ | refine blk_alloc ?_ _)); exact BK195.out) hb); have n2_ := Aside0.mk (blk_below (g := gb201) (o := .cells #[.string ((rd_T68 l1 x30_1).f0), .int .i64 ((rd_T68 l1 x30_1).f1), .slice (some ad202) ((rd_T68 l1 x30_1).f2).length c200_2] 68 (0, 0)) (by (with_reducible repeat (first | refine blk_drewN ?_ _ | refine blk_drew ?_ | refine blk_alloc ?_ _)); exact BK201.out) hb); have n3_ := Aside0.mk (below_step (by repeat (first | (with_reducible first | exact HB.out | apply below_alloc | apply pw_below_drewN | apply below_drew1 | refine below_set ?_ GE195.out | refine below_set ?_ GE201.out) | exact HB.out)) hb); have n4_ := Aside0.mk (hbox); have n5_ := Aside0.mk ((by rw [hg]; exact (below_size (by repeat (first | (with_reducible first | exact HB.out | apply below_alloc | apply pw_below_drewN | apply below_drew1 | refine below_set ?_ GE195.out | refine below_set ?_ GE201.out) | exact HB.out))) : w.heap.size ≤ gb203)); have n6_ := Aside0.mk ((by rw [hg]; exact (below_size (by repeat (first | (with_reducible first | exact HB.out | apply below_alloc | apply pw_below_drewN | apply below_drew1 | refine below_set ?_ GE195.out | refine below_set ?_ GE201.out) | exact HB.out))) : w.heap.size ≤ gb203)); have n7_ := Aside0.mk ((by rw [hg]; exact Nat.ne_of_lt (blk_lt (g := gb195) (o := .cells #[.int .i64 a0_0, .int .i64 a0_1, .int .i64 a0_2] 38 (0, 0)) (by (with_reducible repeat (first | refine blk_drewN ?_ _ | refine blk_drew ?_ | refine blk_alloc ?_ _)); exact BK195.out)) : gb195 ≠ gb203)); have n8_ := Aside0.mk ((by rw [hg]; exact Nat.ne_of_gt (blk_lt (g := gb195) (o := .cells #[.int .i64 a0_0, .int .i64 a0_1, .int .i64 a0_2] 38 (0, 0)) (by (with_reducible repeat (first | refine blk_drewN ?_ _ | refine blk_drew ?_ | refine blk_alloc ?_ _)); exact BK195.out)) : gb203 ≠ gb195)); have n9_ := Aside0.mk ((by rw [hg]; exact Nat.ne_of_lt (blk_lt (g := gb201) (o := .cells #[.string ((rd_T68 l1 x30_1).f0), .int .i64 ((rd_T68 l1 x30_1).f1), .slice (some ad202) ((rd_T68 l1 x30_1).f2).length c200_2] 68 (0, 0)) (by (with_reducible repeat (first | refine blk_drewN ?_ _ | refine blk_drew ?_ | refine blk_alloc ?_ _)); exact BK201.out)) : gb201 ≠ gb203)); have n10_ := Aside0.mk ((by rw [hg]; exact Nat.ne_of_gt (blk_lt (g := gb201) (o := .cells #[.string ((rd_T68 l1 x30_1).f0), .int .i64 ((rd_T68 l1 x30_1).f1), .slice (some ad202) ((rd_T68 l1 x30_1).f2).length c200_2] 68 (0, 0)) (by (with_reducible repeat (first | refine blk_drewN ?_ _ | refine blk_drew ?_ | refine blk_alloc ?_ _)); exact BK201.out)) : gb203 ≠ gb201)); clear HO_7; clear BK195; clear BK201; clear HB; have HO_7 := n0_; have BK195 := n1_; have BK201 := n2_; have HB := n3_; have BK203 := n4_; have GW203 := n5_; have GE203 := n6_; have NB195_203 := n7_; have NB203_195 := n8_; have NB201_203 := n9_; have NB203_201 := n10_; clear n0_ n1_ n2_ n3_ n4_ n5_ n6_ n7_ n8_ n9_ n10_; have m0_ := Aside0.mk (blk_below (g := BM) (o := om) (by (with_reducible repeat (first | refine blk_drewN ?_ _ | refine blk_drew ?_ | refine blk_alloc ?_ _ | refine Seen.obj_far ?_ GNE195.out _ | refine Seen.obj_far ?_ GNE201.out _)); exact BKM.out) hb); have m1_ := Aside0.mk (show BM ≠ gb203 from Nat.ne_of_lt (by rw [hg]; exact blk_lt (o := om) (by (with_reducible repeat (first | refine blk_drewN ?_ _ | refine blk_drew ?_ | refine blk_alloc ?_ _ | refine Seen.obj_far ?_ GNE195.out _ | refine Seen.obj_far ?_ GNE201.out _)); exact BKM.out))); clear BKM; have BKM := m0_; have GNE203 := m1_; clear m0_ m1_; clear hb hbox hg; have hnb45 := NB203_195.out; have hnc45 := NB195_203.out; have hnb46 := NB203_201.out; have hnc46 := NB201_203.out; have hcz47_0 : w44.cell? ⟨gb203, 0, none⟩ = some (.int .i64 0) := (blk_cell BK203.out 0).trans rfl; have hcz47_1 : w44.cell? ⟨gb203, 1, none⟩ = some (.int .i64 0) := (blk_cell BK203.out 1).trans rfl; have hcz47_2 : w44.cell? ⟨gb203, 2, none⟩ = some (.int .i64 0) := (blk_cell BK203.out 2).trans rfl; have hcz47_3 : w44.cell? ⟨gb203, 3, none⟩ = some (.int .i64 0) := (blk_cell BK203.out 3).trans rfl; have hfz47_0 := blk_frozen BK203.out 0; have hfz47_1 := blk_frozen BK203.out 1; have hfz47_2 := blk_frozen BK203.out 2; have hfz47_3 := blk_frozen BK203.out 3))
                  have n0_ : Aside0 (Kd.R (Kd.int .i64) 3 ((((w44.setCell ⟨gb203, 0, none⟩ (.int .i64 ((rd_T71 ((rd_T68 l1 x30_1).f2) x37_2).f0))).setCell ⟨gb203, 1, none⟩ (.int .i64 ((rd_T71 ((rd_T68 l1 x30_1).f2) x37_2).f1))).setCell ⟨gb203, 2, none⟩ (.int .i64 ((rd_T71 ((rd_T68 l1 x30_1).f2) x37_2).f2))).setCell ⟨gb203, 3, none⟩ (.int .i64 ((rd_T71 ((rd_T68 l1 x30_1).f2) x37_2).f3))) w.heap.size (fun _ => True) v198 x7_2) := ⟨by (with_reducible repeat (first | apply Kd.R_alloc | apply Kd.R_drewN | apply Kd.R_drew)); exact Kd.R_mono (Kd.R_far (p := ⟨gb203, 3, none⟩) (Kd.R_far (p := ⟨gb203, 2, none⟩) (Kd.R_far (p := ⟨gb203, 1, none⟩) (Kd.R_far (p := ⟨gb203, 0, none⟩) (Kd.R_types HO_7.out BK203.out (by decide)) (fun _ hk => hk.2) (.int .i64 ((rd_T71 ((rd_T68 l1 x30_1).f2) x37_2).f0))) (fun _ hk => hk.2) (.int .i64 ((rd_T71 ((rd_T68 l1 x30_1).f2) x37_2).f1))) (fun _ hk => hk.2) (.int .i64 ((rd_T71 ((rd_T68 l1 x30_1).f2) x37_2).f2))) (fun _ hk => hk.2) (.int .i64 ((rd_T71 ((rd_T68 l1 x30_1).f2) x37_2).f3))) (fun _ hk => trivial)⟩
                  have n1_ : Aside0 (((((w44.setCell ⟨gb203, 0, none⟩ (.int .i64 ((rd_T71 ((rd_T68 l1 x30_1).f2) x37_2).f0))).setCell ⟨gb203, 1, none⟩ (.int .i64 ((rd_T71 ((rd_T68 l1 x30_1).f2) x37_2).f1))).setCell ⟨gb203, 2, none⟩ (.int .i64 ((rd_T71 ((rd_T68 l1 x30_1).f2) x37_2).f2))).setCell ⟨gb203, 3, none⟩ (.int .i64 ((rd_T71 ((rd_T68 l1 x30_1).f2) x37_2).f3))).heap[gb195]? = some (.cells #[.int .i64 a0_0, .int .i64 a0_1, .int .i64 a0_2] 38 (0, 0))) := ⟨by (with_reducible repeat (first | refine blk_drewN ?_ _ | refine blk_drew ?_ | refine blk_alloc ?_ _)); refine blk_far ?_ NB195_203.out _; (with_reducible repeat (first | refine blk_drewN ?_ _ | refine blk_drew ?_ | refine blk_alloc ?_ _)); refine blk_far ?_ NB195_203.out _; (with_reducible repeat (first | refine blk_drewN ?_ _ | refine blk_drew ?_ | refine blk_alloc ?_ _)); refine blk_far ?_ NB195_203.out _; (with_reducible repeat (first | refine blk_drewN ?_ _ | refine blk_drew ?_ | refine blk_alloc ?_ _)); refine blk_far ?_ NB195_203.out _; (with_reducible repeat (first | refine blk_drewN ?_ _ | refine blk_drew ?_ | refine blk_alloc ?_ _)); exact BK195.out⟩
                  have n2_ : Aside0 (((((w44.setCell ⟨gb203, 0, none⟩ (.int .i64 ((rd_T71 ((rd_T68 l1 x30_1).f2) x37_2).f0))).setCell ⟨gb203, 1, none⟩ (.int .i64 ((rd_T71 ((rd_T68 l1 x30_1).f2) x37_2).f1))).setCell ⟨gb203, 2, none⟩ (.int .i64 ((rd_T71 ((rd_T68 l1 x30_1).f2) x37_2).f2))).setCell ⟨gb203, 3, none⟩ (.int .i64 ((rd_T71 ((rd_T68 l1 x30_1).f2) x37_2).f3))).heap[gb201]? = some (.cells #[.string ((rd_T68 l1 x30_1).f0), .int .i64 ((rd_T68 l1 x30_1).f1), .slice (some ad202) ((rd_T68 l1 x30_1).f2).length c200_2] 68 (0, 0))) := ⟨by (with_reducible repeat (first | refine blk_drewN ?_ _ | refine blk_drew ?_ | refine blk_alloc ?_ _)); refine blk_far ?_ NB201_203.out _; (with_reducible repeat (first | refine blk_drewN ?_ _ | refine blk_drew ?_ | refine blk_alloc ?_ _)); refine blk_far ?_ NB201_203.out _; (with_reducible repeat (first | refine blk_drewN ?_ _ | refine blk_drew ?_ | refine blk_alloc ?_ _)); refine blk_far ?_ NB201_203.out _; (with_reducible repeat (first | refine blk_drewN ?_ _ | refine blk_drew ?_ | refine blk_alloc ?_ _)); refine blk_far ?_ NB201_203.out _; (with_reducible repeat (first | refine blk_drewN ?_ _ | refine blk_drew ?_ | refine blk_alloc ?_ _)); exact BK201.out⟩
                  have n3_ : Aside0 (((((w44.setCell ⟨gb203, 0, none⟩ (.int .i64 ((rd_T71 ((rd_T68 l1 x30_1).f2) x37_2).f0))).setCell ⟨gb203, 1, none⟩ (.int .i64 ((rd_T71 ((rd_T68 l1 x30_1).f2) x37_2).f1))).setCell ⟨gb203, 2, none⟩ (.int .i64 ((rd_T71 ((rd_T68 l1 x30_1).f2) x37_2).f2))).setCell ⟨gb203, 3, none⟩ (.int .i64 ((rd_T71 ((rd_T68 l1 x30_1).f2) x37_2).f3))).heap[gb203]? = some (.cells #[.int .i64 ((rd_T71 ((rd_T68 l1 x30_1).f2) x37_2).f0), .int .i64 ((rd_T71 ((rd_T68 l1 x30_1).f2) x37_2).f1), .int .i64 ((rd_T71 ((rd_T68 l1 x30_1).f2) x37_2).f2), .int .i64 ((rd_T71 ((rd_T68 l1 x30_1).f2) x37_2).f3)] 71 (0, 0))) := ⟨by (with_reducible repeat (first | refine blk_drewN ?_ _ | refine blk_drew ?_ | refine blk_alloc ?_ _)); refine blk_put (cs := #[.int .i64 ((rd_T71 ((rd_T68 l1 x30_1).f2) x37_2).f0), .int .i64 ((rd_T71 ((rd_T68 l1 x30_1).f2) x37_2).f1), .int .i64 ((rd_T71 ((rd_T68 l1 x30_1).f2) x37_2).f2), .int .i64 0]) ?_ 3 _ rfl; (with_reducible repeat (first | refine blk_drewN ?_ _ | refine blk_drew ?_ | refine blk_alloc ?_ _)); refine blk_put (cs := #[.int .i64 ((rd_T71 ((rd_T68 l1 x30_1).f2) x37_2).f0), .int .i64 ((rd_T71 ((rd_T68 l1 x30_1).f2) x37_2).f1), .int .i64 0, .int .i64 0]) ?_ 2 _ rfl; (with_reducible repeat (first | refine blk_drewN ?_ _ | refine blk_drew ?_ | refine blk_alloc ?_ _)); refine blk_put (cs := #[.int .i64 ((rd_T71 ((rd_T68 l1 x30_1).f2) x37_2).f0), .int .i64 0, .int .i64 0, .int .i64 0]) ?_ 1 _ rfl; (with_reducible repeat (first | refine blk_drewN ?_ _ | refine blk_drew ?_ | refine blk_alloc ?_ _)); refine blk_put (cs := #[.int .i64 0, .int .i64 0, .int .i64 0, .int .i64 0]) ?_ 0 _ rfl; (with_reducible repeat (first | refine blk_drewN ?_ _ | refine blk_drew ?_ | refine blk_alloc ?_ _)); exact BK203.out⟩
                  have n4_ : Aside0 (Below w.heap.size w ((((w44.setCell ⟨gb203, 0, none⟩ (.int .i64 ((rd_T71 ((rd_T68 l1 x30_1).f2) x37_2).f0))).setCell ⟨gb203, 1, none⟩ (.int .i64 ((rd_T71 ((rd_T68 l1 x30_1).f2) x37_2).f1))).setCell ⟨gb203, 2, none⟩ (.int .i64 ((rd_T71 ((rd_T68 l1 x30_1).f2) x37_2).f2))).setCell ⟨gb203, 3, none⟩ (.int .i64 ((rd_T71 ((rd_T68 l1 x30_1).f2) x37_2).f3)))) := ⟨by repeat (first | (with_reducible first | exact HB.out | apply below_alloc | apply pw_below_drewN | apply below_drew1 | refine below_set ?_ GE195.out | refine below_set ?_ GE201.out | refine below_set ?_ GE203.out) | exact HB.out)⟩
                  (try clear HO_7)
                  (try clear BK195)
                  (try clear BK201)
                  (try clear BK203)
                  (try clear HB)
                  have mM_ : Aside0 ((((((w44.setCell ⟨gb203, 0, none⟩ (.int .i64 ((rd_T71 ((rd_T68 l1 x30_1).f2) x37_2).f0))).setCell ⟨gb203, 1, none⟩ (.int .i64 ((rd_T71 ((rd_T68 l1 x30_1).f2) x37_2).f1))).setCell ⟨gb203, 2, none⟩ (.int .i64 ((rd_T71 ((rd_T68 l1 x30_1).f2) x37_2).f2))).setCell ⟨gb203, 3, none⟩ (.int .i64 ((rd_T71 ((rd_T68 l1 x30_1).f2) x37_2).f3)))).heap[BM]? = some om) := ⟨(by (with_reducible repeat (first | refine blk_drewN ?_ _ | refine blk_drew ?_ | refine blk_alloc ?_ _ | refine Seen.obj_far ?_ GNE195.out _ | refine Seen.obj_far ?_ GNE201.out _ | refine Seen.obj_far ?_ GNE203.out _)); exact BKM.out)⟩
                  clear BKM
                  have BKM := mM_
                  clear mM_
                  generalize ((((w44.setCell ⟨gb203, 0, none⟩ (.int .i64 ((rd_T71 ((rd_T68 l1 x30_1).f2) x37_2).f0))).setCell ⟨gb203, 1, none⟩ (.int .i64 ((rd_T71 ((rd_T68 l1 x30_1).f2) x37_2).f1))).setCell ⟨gb203, 2, none⟩ (.int .i64 ((rd_T71 ((rd_T68 l1 x30_1).f2) x37_2).f2))).setCell ⟨gb203, 3, none⟩ (.int .i64 ((rd_T71 ((rd_T68 l1 x30_1).f2) x37_2).f3))) = w48 at n0_ n1_ n2_ n3_ n4_ BKM ⊢
                  have HO_7 := n0_
                  have BK195 := n1_
                  have BK201 := n2_
                  have BK203 := n3_
                  have HB := n4_
                  clear n0_ n1_ n2_ n3_ n4_
                  have n0_ := Aside0.mk (Kd.R_drew HO_7.out)
                  have n1_ := Aside0.mk (blk_drew BK195.out)
                  have n2_ := Aside0.mk (blk_drew BK201.out)
                  have n3_ := Aside0.mk (blk_drew BK203.out)
                  have n4_ := Aside0.mk (below_drew1 HB.out)
                  clear HO_7
                  clear BK195
                  clear BK201
                  clear BK203
                  clear HB
                  have HO_7 := n0_
                  have BK195 := n1_
                  have BK201 := n2_
                  have BK203 := n3_
                  have HB := n4_
                  clear n0_ n1_ n2_ n3_ n4_
                  obtain ⟨Ao50, co50, eo50⟩ := Kd.R_slice HO_7.out
                  (first | subst eo50 | (injection eo50 with f1_ f2_ f3_; have f4_ := f1_.symm; have f5_ := f3_.symm; clear f1_ f2_ f3_; subst f4_; subst f5_))
                  have p204 : 0 ≤ (((rd_T71 ((rd_T68 l1 x30_1).f2) x37_2).f0) : Int) := of_decide_eq_true (by first | (with_reducible assumption) | assumption)
                  have q204 : ((rd_T71 ((rd_T68 l1 x30_1).f2) x37_2).f0) < (x7_2.length : Int) := of_decide_eq_true (by first | (with_reducible assumption) | assumption)
                  obtain ⟨ad204, e204, hx204_0⟩ := Kd.at_int (Kd.R_reads' HO_7.out).2.2 ((rd_T71 ((rd_T68 l1 x30_1).f2) x37_2).f0) p204 q204
                  cases e204
                  replace p204 := eq_true p204
                  replace q204 := eq_true q204
                  have p26 : 0 ≤ (((rd_T71 ((rd_T68 l1 x30_1).f2) x37_2).f0) : Int) := of_decide_eq_true (by first | (with_reducible assumption) | assumption)
                  have q26 : (((rd_T71 ((rd_T68 l1 x30_1).f2) x37_2).f0) : Int) < ((x7_2.length : Int) : Int) := of_decide_eq_true (by first | (with_reducible assumption) | assumption)
                  obtain ⟨go26, co26, eo26, gb26, gl26, cl26, HG26⟩ := Kd.R_form HO_7.out (by omega)
                  (first | cases eo26 | (injection eo26 with ea_ en_ ec_; (first | subst ea_ | (injection ea_ with ea_; subst ea_)); subst ec_; clear en_))
                  have GB26 := Aside0.mk gb26
                  have GG26 := Aside0.mk HG26
                  have GNEgo26 := Aside0.mk (pair_ne_cells HS.out GG26.out (by (with_reducible repeat (first | refine blk_drewN ?_ _ | refine blk_drew ?_ | refine blk_alloc ?_ _ | refine Seen.obj_far ?_ GNE195.out _ | refine Seen.obj_far ?_ GNE201.out _ | refine Seen.obj_far ?_ GNE203.out _)); exact BKM.out))
                  clear gb26 gl26 HG26
                  (first | simp only [add_plain] at hx204_0 | skip)
                  obtain ⟨hx26_0, hf26_0⟩ := Kd.R_celln 0 HO_7.out (((rd_T71 ((rd_T68 l1 x30_1).f2) x37_2).f0) : Int) p26 q26
                  replace p26 := eq_true p26
                  replace q26 := eq_true q26
                  have HP51 := Kd.R_putn HO_7.out (((rd_T71 ((rd_T68 l1 x30_1).f2) x37_2).f0) : Int) (wrap64 ((rd x7_2 ((rd_T71 ((rd_T68 l1 x30_1).f2) x37_2).f0)) + ((rd_T71 ((rd_T68 l1 x30_1).f2) x37_2).f1)))
                  rw [← Ny205.out] at HP51
                  have HQ51 := Aside0.mk HP51
                  clear HP51
                  refine start_ (n := 10) (S := fun w' => w'.cell? ⟨gb203, 0, none⟩ = some (.int .i64 ((rd_T71 ((rd_T68 l1 x30_1).f2) x37_2).f0)) ∧ w'.cell? ⟨gb203, 1, none⟩ = some (.int .i64 ((rd_T71 ((rd_T68 l1 x30_1).f2) x37_2).f1)) ∧ w'.cell? ⟨gb203, 2, none⟩ = some (.int .i64 ((rd_T71 ((rd_T68 l1 x30_1).f2) x37_2).f2)) ∧ w'.cell? ⟨gb203, 3, none⟩ = some (.int .i64 ((rd_T71 ((rd_T68 l1 x30_1).f2) x37_2).f3)) ∧ w'.cell? ⟨go26, (((rd_T71 ((rd_T68 l1 x30_1).f2) x37_2).f0)).toNat, none⟩ = some (.int .i64 (rd x7_2 ((rd_T71 ((rd_T68 l1 x30_1).f2) x37_2).f0)))) (ds := [9]) #[false, false, false, false, false, false, false, false, false, false] (by kernel_rfl) rfl rfl ⟨(blk_cell BK203.out 0).trans rfl, (blk_cell BK203.out 1).trans rfl, (blk_cell BK203.out 2).trans rfl, (blk_cell BK203.out 3).trans rfl, hx204_0⟩ (fun hHeld => ?_); refine with_tabW impl_Bound.tab16 impl_Bound.bits16 (fun HT_ HW_ => ?_)
                  have mM_ : Aside0 ((w48.drew).heap[BM]? = some om) := ⟨(by (with_reducible repeat (first | refine blk_drewN ?_ _ | refine blk_drew ?_ | refine blk_alloc ?_ _ | refine Seen.obj_far ?_ GNE195.out _ | refine Seen.obj_far ?_ GNE201.out _ | refine Seen.obj_far ?_ GNE203.out _ | refine Seen.obj_far ?_ GNEgo26.out _)); exact BKM.out)⟩
                  clear BKM
                  have BKM := mM_
                  clear mM_
                  generalize w48.drew = w49 at HO_7 BK195 BK201 BK203 HB GG26 HQ51 hf26_0 hx204_0 hx26_0 hHeld BKM ⊢
                  refine pure_ (i := 0) (N := some 45) (v := ?_) (a' := ?_) #[true, false, false, false, false, false, false, false, false, false] rfl rfl (any_of HT_.out (by kernel_rfl)) (fun _ _ _ h => h) (Or.inl ⟨by rfl, ?_⟩) ?_ ?_
                  rotate_left
                  ·intro w'
                   go_simp
                   with_reducible rfl
                  rotate_left
                  ·simp only [Act.put, List.setIfInBounds_toArray, List.set_cons_zero, List.set_cons_succ, i64_w, i32_w]
                   rfl
                  refine pure_ (i := 1) (N := some 46) (v := ?_) (a' := ?_) #[true, true, false, false, false, false, false, false, false, false] rfl rfl (any_of HT_.out (by kernel_rfl)) (fun _ _ _ h => h) (Or.inl ⟨by rfl, ?_⟩) ?_ ?_
                  rotate_left
                  ·intro w'
                   go_simp
                   with_reducible rfl
                  rotate_left
                  ·simp only [Act.put, List.setIfInBounds_toArray, List.set_cons_zero, List.set_cons_succ, i64_w, i32_w]
                   rfl
                  refine pure_ (i := 5) (N := some 50) (v := ?_) (a' := ?_) #[true, true, false, false, false, true, false, false, false, false] rfl rfl (any_of HT_.out (by kernel_rfl)) (fun _ _ _ h => h) (Or.inl ⟨by rfl, ?_⟩) ?_ ?_
                  rotate_left
                  ·intro w'
                   go_simp
                   with_reducible rfl
                  rotate_left
                  ·simp only [Act.put, List.setIfInBounds_toArray, List.set_cons_zero, List.set_cons_succ, i64_w, i32_w]
                   rfl
                  refine take_ (i := 2) (N := some 47) (v := ?_) (a' := ?_) #[true, true, true, false, false, true, false, false, false, false] rfl rfl (take_ofW HT_.out HW_.out (by kernel_rfl)) (fun _ _ _ h => h) (Or.inl ⟨by rfl, ?_⟩) hHeld ?_ ?_
                  rotate_left
                  ·rintro w' ⟨s0, s1, s2, s3, s4⟩
                   go_simp
                   with_reducible rfl
                  rotate_left
                  ·simp only [Act.put, List.setIfInBounds_toArray, List.set_cons_zero, List.set_cons_succ, i64_w, i32_w]
                   rfl
                  refine pure_ (i := 3) (N := some 48) (v := ?_) (a' := ?_) #[true, true, true, true, false, true, false, false, false, false] rfl rfl (any_of HT_.out (by kernel_rfl)) (fun _ _ _ h => h) (Or.inl ⟨by rfl, ?_⟩) ?_ ?_
                  rotate_left
                  ·intro w'
                   go_simp
                   with_reducible rfl
                  rotate_left
                  ·simp only [Act.put, List.setIfInBounds_toArray, List.set_cons_zero, List.set_cons_succ, i64_w, i32_w]
                   rfl
                  refine take_ (i := 4) (N := some 49) (v := ?_) (a' := ?_) #[true, true, true, true, true, true, false, false, false, false] rfl rfl (take_ofW HT_.out HW_.out (by kernel_rfl)) (fun _ _ _ h => h) (Or.inl ⟨by rfl, ?_⟩) hHeld ?_ ?_
                  rotate_left
                  ·rintro w' ⟨s0, s1, s2, s3, s4⟩
                   go_simp
                   with_reducible rfl
                  rotate_left
                  ·simp only [Act.put, List.setIfInBounds_toArray, List.set_cons_zero, List.set_cons_succ, i64_w, i32_w]
                   rfl
                  refine take_ (i := 6) (N := some 51) (v := ?_) (a' := ?_) #[true, true, true, true, true, true, true, false, false, false] rfl rfl (take_ofW HT_.out HW_.out (by kernel_rfl)) (fun _ _ _ h => h) (Or.inl ⟨by rfl, ?_⟩) hHeld ?_ ?_
                  rotate_left
                  ·rintro w' ⟨s0, s1, s2, s3, s4⟩
                   go_simp
                   with_reducible rfl
                  rotate_left
                  ·simp only [Act.put, List.setIfInBounds_toArray, List.set_cons_zero, List.set_cons_succ, i64_w, i32_w]
                   rfl
                  refine pure_ (i := 7) (N := some 52) (v := ?_) (a' := ?_) #[true, true, true, true, true, true, true, true, false, false] rfl rfl (any_of HT_.out (by kernel_rfl)) (fun _ _ _ h => h) (Or.inl ⟨by rfl, ?_⟩) ?_ ?_
                  rotate_left
                  ·intro w'
                   go_simp
                   with_reducible rfl
                  rotate_left
                  ·simp only [Act.put, List.setIfInBounds_toArray, List.set_cons_zero, List.set_cons_succ, i64_w, i32_w]
                   rfl
                  refine pure_ (i := 8) (N := some 53) (v := ?_) (a' := ?_) #[true, true, true, true, true, true, true, true, true, false] rfl rfl (any_of HT_.out (by kernel_rfl)) (fun _ _ _ h => h) (Or.inl ⟨by rfl, ?_⟩) ?_ ?_
                  rotate_left
                  ·intro w'
                   go_simp
                   with_reducible rfl
                  rotate_left
                  ·simp only [Act.put, List.setIfInBounds_toArray, List.set_cons_zero, List.set_cons_succ, i64_w, i32_w]
                   rfl
                  refine last_ (i := 9) (N := none) #[true, true, true, true, true, true, true, true, true, true] rfl rfl (one_of HT_.out (by kernel_rfl)) (by decide) (fun K hK => ?_)
                  refine skip_ (w1 := ?_) (by rfl) rfl ?_ ?_
                  rotate_left
                  ·go_simp
                   rfl
                  refine hK.out _ _ ?_
                  clear hK K
                  refine done_ (done_of HT_.out (by kernel_rfl)) ?_
                  have n0_ : Aside0 (Kd.R (Kd.int .i64) 3 (w49.setCell ⟨go26, (((rd_T71 ((rd_T68 l1 x30_1).f2) x37_2).f0) : Int).toNat, none⟩ (.int .i64 (wrap64 ((rd x7_2 ((rd_T71 ((rd_T68 l1 x30_1).f2) x37_2).f0)) + ((rd_T71 ((rd_T68 l1 x30_1).f2) x37_2).f1))))) w.heap.size (fun _ => True) (.slice (some ⟨go26, 0, none⟩) x7_2.length co50) y205) := ⟨by (with_reducible repeat (first | apply Kd.R_alloc | apply Kd.R_drewN | apply Kd.R_drew)); exact HQ51.out⟩
                  have n1_ : Aside0 ((w49.setCell ⟨go26, (((rd_T71 ((rd_T68 l1 x30_1).f2) x37_2).f0) : Int).toNat, none⟩ (.int .i64 (wrap64 ((rd x7_2 ((rd_T71 ((rd_T68 l1 x30_1).f2) x37_2).f0)) + ((rd_T71 ((rd_T68 l1 x30_1).f2) x37_2).f1))))).heap[gb195]? = some (.cells #[.int .i64 a0_0, .int .i64 a0_1, .int .i64 a0_2] 38 (0, 0))) := ⟨by (with_reducible repeat (first | refine blk_drewN ?_ _ | refine blk_drew ?_ | refine blk_alloc ?_ _)); refine blk_far ?_ (by have h_ := Kd.R_ne HO_7.out BK195.out (by decide); intro e_; exact h_ (by rw [e_]; rfl)) _; (with_reducible repeat (first | refine blk_drewN ?_ _ | refine blk_drew ?_ | refine blk_alloc ?_ _)); exact BK195.out⟩
                  have n2_ : Aside0 ((w49.setCell ⟨go26, (((rd_T71 ((rd_T68 l1 x30_1).f2) x37_2).f0) : Int).toNat, none⟩ (.int .i64 (wrap64 ((rd x7_2 ((rd_T71 ((rd_T68 l1 x30_1).f2) x37_2).f0)) + ((rd_T71 ((rd_T68 l1 x30_1).f2) x37_2).f1))))).heap[gb201]? = some (.cells #[.string ((rd_T68 l1 x30_1).f0), .int .i64 ((rd_T68 l1 x30_1).f1), .slice (some ad202) ((rd_T68 l1 x30_1).f2).length c200_2] 68 (0, 0))) := ⟨by (with_reducible repeat (first | refine blk_drewN ?_ _ | refine blk_drew ?_ | refine blk_alloc ?_ _)); refine blk_far ?_ (by have h_ := Kd.R_ne HO_7.out BK201.out (by decide); intro e_; exact h_ (by rw [e_]; rfl)) _; (with_reducible repeat (first | refine blk_drewN ?_ _ | refine blk_drew ?_ | refine blk_alloc ?_ _)); exact BK201.out⟩
                  have n3_ : Aside0 ((w49.setCell ⟨go26, (((rd_T71 ((rd_T68 l1 x30_1).f2) x37_2).f0) : Int).toNat, none⟩ (.int .i64 (wrap64 ((rd x7_2 ((rd_T71 ((rd_T68 l1 x30_1).f2) x37_2).f0)) + ((rd_T71 ((rd_T68 l1 x30_1).f2) x37_2).f1))))).heap[gb203]? = some (.cells #[.int .i64 ((rd_T71 ((rd_T68 l1 x30_1).f2) x37_2).f0), .int .i64 ((rd_T71 ((rd_T68 l1 x30_1).f2) x37_2).f1), .int .i64 ((rd_T71 ((rd_T68 l1 x30_1).f2) x37_2).f2), .int .i64 ((rd_T71 ((rd_T68 l1 x30_1).f2) x37_2).f3)] 71 (0, 0))) := ⟨by (with_reducible repeat (first | refine blk_drewN ?_ _ | refine blk_drew ?_ | refine blk_alloc ?_ _)); refine blk_far ?_ (by have h_ := Kd.R_ne HO_7.out BK203.out (by decide); intro e_; exact h_ (by rw [e_]; rfl)) _; (with_reducible repeat (first | refine blk_drewN ?_ _ | refine blk_drew ?_ | refine blk_alloc ?_ _)); exact BK203.out⟩
                  have n4_ : Aside0 (Below w.heap.size w (w49.setCell ⟨go26, (((rd_T71 ((rd_T68 l1 x30_1).f2) x37_2).f0) : Int).toNat, none⟩ (.int .i64 (wrap64 ((rd x7_2 ((rd_T71 ((rd_T68 l1 x30_1).f2) x37_2).f0)) + ((rd_T71 ((rd_T68 l1 x30_1).f2) x37_2).f1)))))) := ⟨by repeat (first | (with_reducible first | exact HB.out | apply below_alloc | apply pw_below_drewN | apply below_drew1 | refine below_set ?_ GB26.out | refine below_set ?_ GE195.out | refine below_set ?_ GE201.out | refine below_set ?_ GE203.out) | exact HB.out)⟩
                  (try clear HO_7)
                  (try clear BK195)
                  (try clear BK201)
                  (try clear BK203)
                  (try clear HB)
                  have mM_ : Aside0 (((w49.setCell ⟨go26, (((rd_T71 ((rd_T68 l1 x30_1).f2) x37_2).f0) : Int).toNat, none⟩ (.int .i64 (wrap64 ((rd x7_2 ((rd_T71 ((rd_T68 l1 x30_1).f2) x37_2).f0)) + ((rd_T71 ((rd_T68 l1 x30_1).f2) x37_2).f1)))))).heap[BM]? = some om) := ⟨(by (with_reducible repeat (first | refine blk_drewN ?_ _ | refine blk_drew ?_ | refine blk_alloc ?_ _ | refine Seen.obj_far ?_ GNE195.out _ | refine Seen.obj_far ?_ GNE201.out _ | refine Seen.obj_far ?_ GNE203.out _ | refine Seen.obj_far ?_ GNEgo26.out _)); exact BKM.out)⟩
                  clear BKM
                  have BKM := mM_
                  clear mM_
                  generalize (w49.setCell ⟨go26, (((rd_T71 ((rd_T68 l1 x30_1).f2) x37_2).f0) : Int).toNat, none⟩ (.int .i64 (wrap64 ((rd x7_2 ((rd_T71 ((rd_T68 l1 x30_1).f2) x37_2).f0)) + ((rd_T71 ((rd_T68 l1 x30_1).f2) x37_2).f1))))) = w52 at n0_ n1_ n2_ n3_ n4_ BKM ⊢
                  have HO_7 := n0_
                  have BK195 := n1_
                  have BK201 := n2_
                  have BK203 := n3_
                  have HB := n4_
                  clear n0_ n1_ n2_ n3_ n4_
                  have hcz53_0 : w52.cell? ⟨gb203, 0, none⟩ = some (.int .i64 ((rd_T71 ((rd_T68 l1 x30_1).f2) x37_2).f0)) := (blk_cell BK203.out 0).trans rfl
                  have hcz53_1 : w52.cell? ⟨gb203, 1, none⟩ = some (.int .i64 ((rd_T71 ((rd_T68 l1 x30_1).f2) x37_2).f1)) := (blk_cell BK203.out 1).trans rfl
                  have hcz53_2 : w52.cell? ⟨gb203, 2, none⟩ = some (.int .i64 ((rd_T71 ((rd_T68 l1 x30_1).f2) x37_2).f2)) := (blk_cell BK203.out 2).trans rfl
                  have hcz53_3 : w52.cell? ⟨gb203, 3, none⟩ = some (.int .i64 ((rd_T71 ((rd_T68 l1 x30_1).f2) x37_2).f3)) := (blk_cell BK203.out 3).trans rfl
                  have hfz53_0 := blk_frozen BK203.out 0
                  have hfz53_1 := blk_frozen BK203.out 1
                  have hfz53_2 := blk_frozen BK203.out 2
                  have hfz53_3 := blk_frozen BK203.out 3
                  try go_wp2_with (first | ((with_reducible refine gate_dst (N := 14) rfl ?_); refine box_event ?hg (N := 14) ?hd (cs := #[.int .i64 0, .int .i64 0]) (t := 77) ?hr ?_; (case hd => rfl); (case hg => rfl); (case hr => first | (go_simp; done) | (go_simp; rfl)); intro gb206 hg w54 hbox hb; have n0_ := Aside0.mk (Kd.R_below (by (with_reducible repeat (first | apply Kd.R_alloc | apply Kd.R_drewN | apply Kd.R_drew)); exact HO_7.out) hb); have n1_ := Aside0.mk (blk_below (g := gb195) (o := .cells #[.int .i64 a0_0, .int .i64 a0_1, .int .i64 a0_2] 38 (0, 0)) (by (with_reducible repeat (first | refine blk_drewN ?_ _ | refine blk_drew ?_ | refine blk_alloc ?_ _)); exact BK195.out) hb); have n2_ := Aside0.mk (blk_below (g := gb201) (o := .cells #[.string ((rd_T68 l1 x30_1).f0), .int .i64 ((rd_T68 l1 x30_1).f1), .slice (some ad202) ((rd_T68 l1 x30_1).f2).length c200_2] 68 (0, 0)) (by (with_reducible repeat (first | refine blk_drewN ?_ _ | refine blk_drew ?_ | refine blk_alloc ?_ _)); exact BK201.out) hb); have n3_ := Aside0.mk (blk_below (g := gb203) (o := .cells #[.int .i64 ((rd_T71 ((rd_T68 l1 x30_1).f2) x37_2).f0), .int .i64 ((rd_T71 ((rd_T68 l1 x30_1).f2) x37_2).f1), .int .i64 ((rd_T71 ((rd_T68 l1 x30_1).f2) x37_2).f2), .int .i64 ((rd_T71 ((rd_T68 l1 x30_1).f2) x37_2).f3)] 71 (0, 0)) (by (with_reducible repeat (first | refine blk_drewN ?_ _ | refine blk_drew ?_ | refine blk_alloc ?_ _)); exact BK203.out) hb); have n4_ := Aside0.mk (below_step (by repeat (first | (with_reducible first | exact HB.out | apply below_alloc | apply pw_below_drewN | apply below_drew1 | refine below_set ?_ GE195.out | refine below_set ?_ GE201.out | refine below_set ?_ GE203.out) | exact HB.out)) hb); have n5_ := Aside0.mk (hbox); have n6_ := Aside0.mk ((by rw [hg]; exact (below_size (by repeat (first | (with_reducible first | exact HB.out | apply below_alloc | apply pw_below_drewN | apply below_drew1 | refine below_set ?_ GE195.out | refine below_set ?_ GE201.out | refine below_set ?_ GE203.out) | exact HB.out))) : w.heap.size ≤ gb206)); have n7_ := Aside0.mk ((by rw [hg]; exact (below_size (by repeat (first | (with_reducible first | exact HB.out | apply below_alloc | apply pw_below_drewN | apply below_drew1 | refine below_set ?_ GE195.out | refine below_set ?_ GE201.out | refine below_set ?_ GE203.out) | exact HB.out))) : w.heap.size ≤ gb206)); have n8_ := Aside0.mk ((by rw [hg]; exact Nat.ne_of_lt (blk_lt (g := gb195) (o := .cells #[.int .i64 a0_0, .int .i64 a0_1, .int .i64 a0_2] 38 (0, 0)) (by (with_reducible repeat (first | refine blk_drewN ?_ _ | refine blk_drew ?_ | refine blk_alloc ?_ _)); exact BK195.out)) : gb195 ≠ gb206)); have n9_ := Aside0.mk ((by rw [hg]; exact Nat.ne_of_gt (blk_lt (g := gb195) (o := .cells #[.int .i64 a0_0, .int .i64 a0_1, .int .i64 a0_2] 38 (0, 0)) (by (with_reducible repeat (first | refine blk_drewN ?_ _ | refine blk_drew ?_ | refine blk_alloc ?_ _)); exact BK195.out)) : gb206 ≠ gb195)); have n10_ := Aside0.mk ((by rw [hg]; exact Nat.ne_of_lt (blk_lt (g := gb201) (o := .cells #[.string ((rd_T68 l1 x30_1).f0), .int .i64 ((rd_T68 l1 x30_1).f1), .slice (some ad202) ((rd_T68 l1 x30_1).f2).length c200_2] 68 (0, 0)) (by (with_reducible repeat (first | refine blk_drewN ?_ _ | refine blk_drew ?_ | refine blk_alloc ?_ _)); exact BK201.out)) : gb201 ≠ gb206)); have n11_ := Aside0.mk ((by rw [hg]; exact Nat.ne_of_gt (blk_lt (g := gb201) (o := .cells #[.string ((rd_T68 l1 x30_1).f0), .int .i64 ((rd_T68 l1 x30_1).f1), .slice (some ad202) ((rd_T68 l1 x30_1).f2).length c200_2] 68 (0, 0)) (by (with_reducible repeat (first | refine blk_drewN ?_ _ | refine blk_drew ?_ | refine blk_alloc ?_ _)); exact BK201.out)) : gb206 ≠ gb201)); have n12_ := Aside0.mk ((by rw [hg]; exact Nat.ne_of_lt (blk_lt (g := gb203) (o := .cells #[.int .i64 ((rd_T71 ((rd_T68 l1 x30_1).f2) x37_2).f0), .int .i64 ((rd_T71 ((rd_T68 l1 x30_1).f2) x37_2).f1), .int .i64 ((rd_T71 ((rd_T68 l1 x30_1).f2) x37_2).f2), .int .i64 ((rd_T71 ((rd_T68 l1 x30_1).f2) x37_2).f3)] 71 (0, 0)) (by (with_reducible repeat (first | refine blk_drewN ?_ _ | refine blk_drew ?_ | refine blk_alloc ?_ _)); exact BK203.out)) : gb203 ≠ gb206)); have n13_ := Aside0.mk ((by rw [hg]; exact Nat.ne_of_gt (blk_lt (g := gb203) (o := .cells #[.int .i64 ((rd_T71 ((rd_T68 l1 x30_1).f2) x37_2).f0), .int .i64 ((rd_T71 ((rd_T68 l1 x30_1).f2) x37_2).f1), .int .i64 ((rd_T71 ((rd_T68 l1 x30_1).f2) x37_2).f2), .int .i64 ((rd_T71 ((rd_T68 l1 x30_1).f2) x37_2).f3)] 71 (0, 0)) (by (with_reducible repeat (first | refine blk_drewN ?_ _ | refine blk_drew ?_ | refine blk_alloc ?_ _)); exact BK203.out)) : gb206 ≠ gb203)); clear HO_7; clear BK195; clear BK201; clear BK203; clear HB; have HO_7 := n0_; have BK195 := n1_; have BK201 := n2_; have BK203 := n3_; have HB := n4_; have BK206 := n5_; have GW206 := n6_; have GE206 := n7_; have NB195_206 := n8_; have NB206_195 := n9_; have NB201_206 := n10_; have NB206_201 := n11_; have NB203_206 := n12_; have NB206_203 := n13_; clear n0_ n1_ n2_ n3_ n4_ n5_ n6_ n7_ n8_ n9_ n10_ n11_ n12_ n13_; have m0_ := Aside0.mk (blk_below (g := BM) (o := om) (by (with_reducible repeat (first | refine blk_drewN ?_ _ | refine blk_drew ?_ | refine blk_alloc ?_ _ | refine Seen.obj_far ?_ GNE195.out _ | refine Seen.obj_far ?_ GNE201.out _ | refine Seen.obj_far ?_ GNE203.out _ | refine Seen.obj_far ?_ GNEgo26.out _)); exact BKM.out) hb); have m1_ := Aside0.mk (show BM ≠ gb206 from Nat.ne_of_lt (by rw [hg]; exact blk_lt (o := om) (by (with_reducible repeat (first | refine blk_drewN ?_ _ | refine blk_drew ?_ | refine blk_alloc ?_ _ | refine Seen.obj_far ?_ GNE195.out _ | refine Seen.obj_far ?_ GNE201.out _ | refine Seen.obj_far ?_ GNE203.out _ | refine Seen.obj_far ?_ GNEgo26.out _)); exact BKM.out))); clear BKM; have BKM := m0_; have GNE206 := m1_; clear m0_ m1_; clear hb hbox hg; have hnb55 := NB206_195.out; have hnc55 := NB195_206.out; have hnb56 := NB206_201.out; have hnc56 := NB201_206.out; have hnb57 := NB206_203.out; have hnc57 := NB203_206.out; have hcz58_0 : w54.cell? ⟨gb206, 0, none⟩ = some (.int .i64 0) := (blk_cell BK206.out 0).trans rfl; have hcz58_1 : w54.cell? ⟨gb206, 1, none⟩ = some (.int .i64 0) := (blk_cell BK206.out 1).trans rfl; have hfz58_0 := blk_frozen BK206.out 0; have hfz58_1 := blk_frozen BK206.out 1) | ((with_reducible refine gate_ (Op.lookup 76 (.tmp 59) (.tmp 60) false) rfl ?_); (try (refine gate_guard (by rfl) ?_; dsimp only)); refine wpList_lookup_pair rfl rfl Tryd.underlying76 Tryd.underlying4 (by kernel_rfl) BM x8_2 om (by (with_reducible repeat (first | refine blk_drewN ?_ _ | refine blk_drew ?_ | refine blk_alloc ?_ _ | refine Seen.obj_far ?_ GNE195.out _ | refine Seen.obj_far ?_ GNE201.out _ | refine Seen.obj_far ?_ GNE203.out _ | refine Seen.obj_far ?_ GNEgo26.out _ | refine Seen.obj_far ?_ GNE206.out _)); exact BKM.out) HS.out ((rd_T71 ((rd_T68 l1 x30_1).f2) x37_2).f0) ((rd_T71 ((rd_T68 l1 x30_1).f2) x37_2).f2) KS.out rfl (by first | rfl | (go_simp; done) | (go_simp; rfl)) ?_; (try rw [c27b0])) | ((with_reducible refine gate_ (Op.mapUpdate 76 (.tmp 63) (.tmp 64) (.const (.bool true))) rfl ?_); have n0_ : Aside0 (Kd.R (Kd.int .i64) 3 ((w54.setCell ⟨gb206, 0, none⟩ (.int .i64 ((rd_T71 ((rd_T68 l1 x30_1).f2) x37_2).f0))).setCell ⟨gb206, 1, none⟩ (.int .i64 ((rd_T71 ((rd_T68 l1 x30_1).f2) x37_2).f2))) w.heap.size (fun _ => True) (.slice (some ⟨go26, 0, none⟩) x7_2.length co50) y205) := ⟨by (with_reducible repeat (first | apply Kd.R_alloc | apply Kd.R_drewN | apply Kd.R_drew)); exact Kd.R_mono (Kd.R_far (p := ⟨gb206, 1, none⟩) (Kd.R_far (p := ⟨gb206, 0, none⟩) (Kd.R_types HO_7.out BK206.out (by decide)) (fun _ hk => hk.2) (.int .i64 ((rd_T71 ((rd_T68 l1 x30_1).f2) x37_2).f0))) (fun _ hk => hk.2) (.int .i64 ((rd_T71 ((rd_T68 l1 x30_1).f2) x37_2).f2))) (fun _ hk => trivial)⟩; have n1_ : Aside0 (((w54.setCell ⟨gb206, 0, none⟩ (.int .i64 ((rd_T71 ((rd_T68 l1 x30_1).f2) x37_2).f0))).setCell ⟨gb206, 1, none⟩ (.int .i64 ((rd_T71 ((rd_T68 l1 x30_1).f2) x37_2).f2))).heap[gb195]? = some (.cells #[.int .i64 a0_0, .int .i64 a0_1, .int .i64 a0_2] 38 (0, 0))) := ⟨by (with_reducible repeat (first | refine blk_drewN ?_ _ | refine blk_drew ?_ | refine blk_alloc ?_ _)); refine blk_far ?_ NB195_206.out _; (with_reducible repeat (first | refine blk_drewN ?_ _ | refine blk_drew ?_ | refine blk_alloc ?_ _)); refine blk_far ?_ NB195_206.out _; (with_reducible repeat (first | refine blk_drewN ?_ _ | refine blk_drew ?_ | refine blk_alloc ?_ _)); exact BK195.out⟩; have n2_ : Aside0 (((w54.setCell ⟨gb206, 0, none⟩ (.int .i64 ((rd_T71 ((rd_T68 l1 x30_1).f2) x37_2).f0))).setCell ⟨gb206, 1, none⟩ (.int .i64 ((rd_T71 ((rd_T68 l1 x30_1).f2) x37_2).f2))).heap[gb201]? = some (.cells #[.string ((rd_T68 l1 x30_1).f0), .int .i64 ((rd_T68 l1 x30_1).f1), .slice (some ad202) ((rd_T68 l1 x30_1).f2).length c200_2] 68 (0, 0))) := ⟨by (with_reducible repeat (first | refine blk_drewN ?_ _ | refine blk_drew ?_ | refine blk_alloc ?_ _)); refine blk_far ?_ NB201_206.out _; (with_reducible repeat (first | refine blk_drewN ?_ _ | refine blk_drew ?_ | refine blk_alloc ?_ _)); refine blk_far ?_ NB201_206.out _; (with_reducible repeat (first | refine blk_drewN ?_ _ | refine blk_drew ?_ | refine blk_alloc ?_ _)); exact BK201.out⟩; have n3_ : Aside0 (((w54.setCell ⟨gb206, 0, none⟩ (.int .i64 ((rd_T71 ((rd_T68 l1 x30_1).f2) x37_2).f0))).setCell ⟨gb206, 1, none⟩ (.int .i64 ((rd_T71 ((rd_T68 l1 x30_1).f2) x37_2).f2))).heap[gb203]? = some (.cells #[.int .i64 ((rd_T71 ((rd_T68 l1 x30_1).f2) x37_2).f0), .int .i64 ((rd_T71 ((rd_T68 l1 x30_1).f2) x37_2).f1), .int .i64 ((rd_T71 ((rd_T68 l1 x30_1).f2) x37_2).f2), .int .i64 ((rd_T71 ((rd_T68 l1 x30_1).f2) x37_2).f3)] 71 (0, 0))) := ⟨by (with_reducible repeat (first | refine blk_drewN ?_ _ | refine blk_drew ?_ | refine blk_alloc ?_ _)); refine blk_far ?_ NB203_206.out _; (with_reducible repeat (first | refine blk_drewN ?_ _ | refine blk_drew ?_ | refine blk_alloc ?_ _)); refine blk_far ?_ NB203_206.out _; (with_reducible repeat (first | refine blk_drewN ?_ _ | refine blk_drew ?_ | refine blk_alloc ?_ _)); exact BK203.out⟩; have n4_ : Aside0 (((w54.setCell ⟨gb206, 0, none⟩ (.int .i64 ((rd_T71 ((rd_T68 l1 x30_1).f2) x37_2).f0))).setCell ⟨gb206, 1, none⟩ (.int .i64 ((rd_T71 ((rd_T68 l1 x30_1).f2) x37_2).f2))).heap[gb206]? = some (.cells #[.int .i64 ((rd_T71 ((rd_T68 l1 x30_1).f2) x37_2).f0), .int .i64 ((rd_T71 ((rd_T68 l1 x30_1).f2) x37_2).f2)] 77 (0, 0))) := ⟨by (with_reducible repeat (first | refine blk_drewN ?_ _ | refine blk_drew ?_ | refine blk_alloc ?_ _)); refine blk_put (cs := #[.int .i64 ((rd_T71 ((rd_T68 l1 x30_1).f2) x37_2).f0), .int .i64 0]) ?_ 1 _ rfl; (with_reducible repeat (first | refine blk_drewN ?_ _ | refine blk_drew ?_ | refine blk_alloc ?_ _)); refine blk_put (cs := #[.int .i64 0, .int .i64 0]) ?_ 0 _ rfl; (with_reducible repeat (first | refine blk_drewN ?_ _ | refine blk_drew ?_ | refine blk_alloc ?_ _)); exact BK206.out⟩; have n5_ : Aside0 (Below w.heap.size w ((w54.setCell ⟨gb206, 0, none⟩ (.int .i64 ((rd_T71 ((rd_T68 l1 x30_1).f2) x37_2).f0))).setCell ⟨gb206, 1, none⟩ (.int .i64 ((rd_T71 ((rd_T68 l1 x30_1).f2) x37_2).f2)))) := ⟨by repeat (first | (with_reducible first | exact HB.out | apply below_alloc | apply pw_below_drewN | apply below_drew1 | refine below_set ?_ GE195.out | refine below_set ?_ GE201.out | refine below_set ?_ GE203.out | refine below_set ?_ GE206.out) | exact HB.out)⟩; have mM_ : Aside0 ((((w54.setCell ⟨gb206, 0, none⟩ (.int .i64 ((rd_T71 ((rd_T68 l1 x30_1).f2) x37_2).f0))).setCell ⟨gb206, 1, none⟩ (.int .i64 ((rd_T71 ((rd_T68 l1 x30_1).f2) x37_2).f2)))).heap[BM]? = some om) := ⟨(by (with_reducible repeat (first | refine blk_drewN ?_ _ | refine blk_drew ?_ | refine blk_alloc ?_ _ | refine Seen.obj_far ?_ GNE195.out _ | refine Seen.obj_far ?_ GNE201.out _ | refine Seen.obj_far ?_ GNE203.out _ | refine Seen.obj_far ?_ GNEgo26.out _ | refine Seen.obj_far ?_ GNE206.out _)); exact BKM.out)⟩; refine wpList_update_pair rfl rfl Tryd.underlying76 Tryd.underlying4 BM x8_2 om mM_.out HS.out ((rd_T71 ((rd_T68 l1 x30_1).f2) x37_2).f0) ((rd_T71 ((rd_T68 l1 x30_1).f2) x37_2).f2) KS.out KL.out rfl (by first | rfl | (go_simp; done) | (go_simp; rfl)) rfl ?_; intro w59 hsm2 hgr2; have k0_ := Aside0.mk (row_grown n0_.out hgr2 mM_.out HS.out); have k1_ := Aside0.mk (blk_grown n1_.out hgr2 (fun e_ => GNE195.out (Option.some.inj e_).symm)); have k2_ := Aside0.mk (blk_grown n2_.out hgr2 (fun e_ => GNE201.out (Option.some.inj e_).symm)); have k3_ := Aside0.mk (blk_grown n3_.out hgr2 (fun e_ => GNE203.out (Option.some.inj e_).symm)); have k4_ := Aside0.mk (blk_grown n4_.out hgr2 (fun e_ => GNE206.out (Option.some.inj e_).symm)); have k5_ := Aside0.mk (pw_below_grown n5_.out (some BM) (below_size n5_.out) hgr2 (fun k_ hk_ => by cases hk_; exact HBM.out)); clear HO_7 BK195 BK201 BK203 BK206 HB; have HO_7 := k0_; have BK195 := k1_; have BK201 := k2_; have BK203 := k3_; have BK206 := k4_; have HB := k5_; clear n0_ k0_ n1_ k1_ n2_ k2_ n3_ k3_ n4_ k4_ n5_ k5_; clear mM_ BKM HS; obtain ⟨om, hom2, hos2⟩ := hsm2; have BKM := Aside0.mk hom2; have HS := Aside0.mk hos2; clear hom2 hos2 hgr2))
                  have n0_ := Aside0.mk (Kd.R_drew HO_7.out)
                  have n1_ := Aside0.mk (blk_drew BK195.out)
                  have n2_ := Aside0.mk (blk_drew BK201.out)
                  have n3_ := Aside0.mk (blk_drew BK203.out)
                  have n4_ := Aside0.mk (blk_drew BK206.out)
                  have n5_ := Aside0.mk (below_drew1 HB.out)
                  clear HO_7
                  clear BK195
                  clear BK201
                  clear BK203
                  clear BK206
                  clear HB
                  have HO_7 := n0_
                  have BK195 := n1_
                  have BK201 := n2_
                  have BK203 := n3_
                  have BK206 := n4_
                  have HB := n5_
                  clear n0_ n1_ n2_ n3_ n4_ n5_
                  have p207 : 0 ≤ (((rd_T71 ((rd_T68 l1 x30_1).f2) x37_2).f0) : Int) := of_decide_eq_true (by first | (with_reducible assumption) | assumption)
                  have q207 : ((rd_T71 ((rd_T68 l1 x30_1).f2) x37_2).f0) < (y205.length : Int) := (by have h_ : (((rd_T71 ((rd_T68 l1 x30_1).f2) x37_2).f0) : Int) < ((x7_2.length : Int) : Int) := of_decide_eq_true (by first | (with_reducible assumption) | assumption); first | (have e_ := (Kd.R_reads' HO_7.out).1; omega) | simpa only [Ny205.out, List.length_set] using h_)
                  have ql207 : ((((rd_T71 ((rd_T68 l1 x30_1).f2) x37_2).f0) : Int) < ((x7_2.length : Int) : Int)) = True := eq_true (of_decide_eq_true (by first | (with_reducible assumption) | assumption))
                  obtain ⟨ad207, e207, hx207_0⟩ := Kd.at_int (Kd.R_reads' HO_7.out).2.2 ((rd_T71 ((rd_T68 l1 x30_1).f2) x37_2).f0) p207 q207
                  obtain rfl : (⟨go26, 0, none⟩ : Addr) = ad207 := (by injection e207)
                  (first | simp only [add_plain] at hx207_0 | simp only [add_at] at hx207_0 | simp only [Addr.add, Nat.zero_add] at hx207_0 | skip)
                  replace p207 := eq_true p207
                  replace q207 := eq_true q207
                  have p43 : 0 ≤ (((rd_T71 ((rd_T68 l1 x30_1).f2) x37_2).f0) : Int) := of_decide_eq_true (by first | (with_reducible assumption) | assumption)
                  have q43 : (((rd_T71 ((rd_T68 l1 x30_1).f2) x37_2).f0) : Int) < ((x7_2.length : Int) : Int) := of_decide_eq_true (by first | (with_reducible assumption) | assumption)
                  obtain ⟨hx43_0, hf43_0⟩ := Kd.R_celln 0 HO_7.out (((rd_T71 ((rd_T68 l1 x30_1).f2) x37_2).f0) : Int) p43 q43
                  replace p43 := eq_true p43
                  replace q43 := eq_true q43
                  have HP61 := Kd.R_putn HO_7.out (((rd_T71 ((rd_T68 l1 x30_1).f2) x37_2).f0) : Int) (wrap64 ((rd y205 ((rd_T71 ((rd_T68 l1 x30_1).f2) x37_2).f0)) + a0_1))
                  rw [← Ny208.out] at HP61
                  have HQ61 := Aside0.mk HP61
                  clear HP61
                  refine start_ (n := 10) (S := fun w' => w'.cell? ⟨gb203, 0, none⟩ = some (.int .i64 ((rd_T71 ((rd_T68 l1 x30_1).f2) x37_2).f0)) ∧ w'.cell? ⟨gb203, 1, none⟩ = some (.int .i64 ((rd_T71 ((rd_T68 l1 x30_1).f2) x37_2).f1)) ∧ w'.cell? ⟨gb203, 2, none⟩ = some (.int .i64 ((rd_T71 ((rd_T68 l1 x30_1).f2) x37_2).f2)) ∧ w'.cell? ⟨gb203, 3, none⟩ = some (.int .i64 ((rd_T71 ((rd_T68 l1 x30_1).f2) x37_2).f3)) ∧ w'.cell? ⟨gb195, 0, none⟩ = some (.int .i64 a0_0) ∧ w'.cell? ⟨gb195, 1, none⟩ = some (.int .i64 a0_1) ∧ w'.cell? ⟨gb195, 2, none⟩ = some (.int .i64 a0_2) ∧ w'.cell? ⟨go26, (((rd_T71 ((rd_T68 l1 x30_1).f2) x37_2).f0)).toNat, none⟩ = some (.int .i64 (rd y205 ((rd_T71 ((rd_T68 l1 x30_1).f2) x37_2).f0)))) (ds := [9]) #[false, false, false, false, false, false, false, false, false, false] (by kernel_rfl) rfl rfl ⟨(blk_cell BK203.out 0).trans rfl, (blk_cell BK203.out 1).trans rfl, (blk_cell BK203.out 2).trans rfl, (blk_cell BK203.out 3).trans rfl, (blk_cell BK195.out 0).trans rfl, (blk_cell BK195.out 1).trans rfl, (blk_cell BK195.out 2).trans rfl, hx207_0⟩ (fun hHeld => ?_); refine with_tabW impl_Bound.tab20 impl_Bound.bits20 (fun HT_ HW_ => ?_)
                  have mM_ : Aside0 ((w59.drew).heap[BM]? = some om) := ⟨(by (with_reducible repeat (first | refine blk_drewN ?_ _ | refine blk_drew ?_ | refine blk_alloc ?_ _ | refine Seen.obj_far ?_ GNE195.out _ | refine Seen.obj_far ?_ GNE201.out _ | refine Seen.obj_far ?_ GNE203.out _ | refine Seen.obj_far ?_ GNEgo26.out _ | refine Seen.obj_far ?_ GNE206.out _)); exact BKM.out)⟩
                  clear BKM
                  have BKM := mM_
                  clear mM_
                  generalize w59.drew = w60 at HO_7 BK195 BK201 BK203 BK206 HB HQ61 hf43_0 hx207_0 hx43_0 hHeld BKM ⊢
                  refine pure_ (i := 0) (N := some 65) (v := ?_) (a' := ?_) #[true, false, false, false, false, false, false, false, false, false] rfl rfl (any_of HT_.out (by kernel_rfl)) (fun _ _ _ h => h) (Or.inl ⟨by rfl, ?_⟩) ?_ ?_
                  rotate_left
                  ·intro w'
                   go_simp
                   with_reducible rfl
                  rotate_left
                  ·simp only [Act.put, List.setIfInBounds_toArray, List.set_cons_zero, List.set_cons_succ, i64_w, i32_w]
                   rfl
                  refine pure_ (i := 1) (N := some 66) (v := ?_) (a' := ?_) #[true, true, false, false, false, false, false, false, false, false] rfl rfl (any_of HT_.out (by kernel_rfl)) (fun _ _ _ h => h) (Or.inl ⟨by rfl, ?_⟩) ?_ ?_
                  rotate_left
                  ·intro w'
                   go_simp
                   with_reducible rfl
                  rotate_left
                  ·simp only [Act.put, List.setIfInBounds_toArray, List.set_cons_zero, List.set_cons_succ, i64_w, i32_w]
                   rfl
                  refine pure_ (i := 5) (N := some 70) (v := ?_) (a' := ?_) #[true, true, false, false, false, true, false, false, false, false] rfl rfl (any_of HT_.out (by kernel_rfl)) (fun _ _ _ h => h) (Or.inl ⟨by rfl, ?_⟩) ?_ ?_
                  rotate_left
                  ·intro w'
                   go_simp
                   with_reducible rfl
                  rotate_left
                  ·simp only [Act.put, List.setIfInBounds_toArray, List.set_cons_zero, List.set_cons_succ, i64_w, i32_w]
                   rfl
                  refine take_ (i := 2) (N := some 67) (v := ?_) (a' := ?_) #[true, true, true, false, false, true, false, false, false, false] rfl rfl (take_ofW HT_.out HW_.out (by kernel_rfl)) (fun _ _ _ h => h) (Or.inl ⟨by rfl, ?_⟩) hHeld ?_ ?_
                  rotate_left
                  ·rintro w' ⟨s0, s1, s2, s3, s4, s5, s6, s7⟩
                   go_simp
                   with_reducible rfl
                  rotate_left
                  ·simp only [Act.put, List.setIfInBounds_toArray, List.set_cons_zero, List.set_cons_succ, i64_w, i32_w]
                   rfl
                  refine pure_ (i := 3) (N := some 68) (v := ?_) (a' := ?_) #[true, true, true, true, false, true, false, false, false, false] rfl rfl (any_of HT_.out (by kernel_rfl)) (fun _ _ _ h => h) (Or.inl ⟨by rfl, ?_⟩) ?_ ?_
                  rotate_left
                  ·intro w'
                   go_simp
                   with_reducible rfl
                  rotate_left
                  ·simp only [Act.put, List.setIfInBounds_toArray, List.set_cons_zero, List.set_cons_succ, i64_w, i32_w]
                   rfl
                  refine take_ (i := 4) (N := some 69) (v := ?_) (a' := ?_) #[true, true, true, true, true, true, false, false, false, false] rfl rfl (take_ofW HT_.out HW_.out (by kernel_rfl)) (fun _ _ _ h => h) (Or.inl ⟨by rfl, ?_⟩) hHeld ?_ ?_
                  rotate_left
                  ·rintro w' ⟨s0, s1, s2, s3, s4, s5, s6, s7⟩
                   go_simp
                   with_reducible rfl
                  rotate_left
                  ·simp only [Act.put, List.setIfInBounds_toArray, List.set_cons_zero, List.set_cons_succ, i64_w, i32_w]
                   rfl
                  refine take_ (i := 6) (N := some 71) (v := ?_) (a' := ?_) #[true, true, true, true, true, true, true, false, false, false] rfl rfl (take_ofW HT_.out HW_.out (by kernel_rfl)) (fun _ _ _ h => h) (Or.inl ⟨by rfl, ?_⟩) hHeld ?_ ?_
                  rotate_left
                  ·rintro w' ⟨s0, s1, s2, s3, s4, s5, s6, s7⟩
                   go_simp
                   with_reducible rfl
                  rotate_left
                  ·simp only [Act.put, List.setIfInBounds_toArray, List.set_cons_zero, List.set_cons_succ, i64_w, i32_w]
                   rfl
                  refine pure_ (i := 7) (N := some 72) (v := ?_) (a' := ?_) #[true, true, true, true, true, true, true, true, false, false] rfl rfl (any_of HT_.out (by kernel_rfl)) (fun _ _ _ h => h) (Or.inl ⟨by rfl, ?_⟩) ?_ ?_
                  rotate_left
                  ·intro w'
                   go_simp
                   with_reducible rfl
                  rotate_left
                  ·simp only [Act.put, List.setIfInBounds_toArray, List.set_cons_zero, List.set_cons_succ, i64_w, i32_w]
                   rfl
                  refine pure_ (i := 8) (N := some 73) (v := ?_) (a' := ?_) #[true, true, true, true, true, true, true, true, true, false] rfl rfl (any_of HT_.out (by kernel_rfl)) (fun _ _ _ h => h) (Or.inl ⟨by rfl, ?_⟩) ?_ ?_
                  rotate_left
                  ·intro w'
                   go_simp
                   with_reducible rfl
                  rotate_left
                  ·simp only [Act.put, List.setIfInBounds_toArray, List.set_cons_zero, List.set_cons_succ, i64_w, i32_w]
                   rfl
                  refine last_ (i := 9) (N := none) #[true, true, true, true, true, true, true, true, true, true] rfl rfl (one_of HT_.out (by kernel_rfl)) (by decide) (fun K hK => ?_)
                  refine skip_ (w1 := ?_) (by rfl) rfl ?_ ?_
                  rotate_left
                  ·go_simp
                   rfl
                  refine hK.out _ _ ?_
                  clear hK K
                  refine done_ (done_of HT_.out (by kernel_rfl)) ?_
                  try go_wp2
                  go_roundg k2
                  case measure => have := HK1.out; have := HK2.out; omega
                  case rel => exact ⟨(y208), (x8_2 ++ [(((rd_T71 ((rd_T68 l1 x30_1).f2) x37_2).f0), ((rd_T71 ((rd_T68 l1 x30_1).f2) x37_2).f2))]), (wrap64 (x11_2 + ((rd_T71 ((rd_T68 l1 x30_1).f2) x37_2).f1))), (wrap64 (x37_2 + 1)), (by first | rfl | (simp; done) | (simp [*]; done)), (by first | rfl | (simp; done) | (simp [*]; done)), H', ⟨by have := HK1.out; have := HK2.out; omega⟩, ⟨by (with_reducible repeat (first | apply Kd.R_alloc | apply Kd.R_drewN | apply Kd.R_drew)); exact HQ61.out⟩, ⟨by (with_reducible repeat (first | refine blk_drewN ?_ _ | refine blk_drew ?_ | refine blk_alloc ?_ _)); refine blk_far ?_ (by have h_ := Kd.R_ne HO_7.out BK195.out (by decide); intro e_; exact h_ (by rw [e_]; rfl)) _; (with_reducible repeat (first | refine blk_drewN ?_ _ | refine blk_drew ?_ | refine blk_alloc ?_ _)); exact BK195.out⟩, ⟨by (with_reducible repeat (first | refine blk_drewN ?_ _ | refine blk_drew ?_ | refine blk_alloc ?_ _)); refine blk_far ?_ (by have h_ := Kd.R_ne HO_7.out BK201.out (by decide); intro e_; exact h_ (by rw [e_]; rfl)) _; (with_reducible repeat (first | refine blk_drewN ?_ _ | refine blk_drew ?_ | refine blk_alloc ?_ _)); exact BK201.out⟩, ⟨⟨_, (by (with_reducible repeat (first | refine blk_drewN ?_ _ | refine blk_drew ?_ | refine blk_alloc ?_ _ | refine Seen.obj_far ?_ GNE195.out _ | refine Seen.obj_far ?_ GNE201.out _ | refine Seen.obj_far ?_ GNE203.out _ | refine Seen.obj_far ?_ GNEgo26.out _ | refine Seen.obj_far ?_ GNE206.out _)); exact BKM.out), HS.out⟩⟩, ⟨by repeat (first | (with_reducible first | exact HB.out | apply below_alloc | apply pw_below_drewN | apply below_drew1 | refine below_set ?_ GB26.out | refine below_set ?_ GE195.out | refine below_set ?_ GE201.out | refine below_set ?_ GE203.out | refine below_set ?_ GE206.out) | exact HB.out)⟩⟩
                ·rw [if_neg c25] at H
                 exact absurd H (by simp)
               ·rw [if_neg c24] at H
                exact absurd H (by simp)
              ·rw [if_neg c23] at H
               exact absurd H (by simp)
             ·rw [if_neg c22] at H
              exact absurd H (by simp)
            ·rw [if_neg c21] at H
             have c21b0 : decide (x37_2 < (((rd_T68 l1 x30_1).f2).length : Int)) = false := decide_eq_false c21
             clear c21
             obtain ⟨ji62, hji62⟩ : ∃ j_ : Int, (mx x6_1 x11_2) = j_ := ⟨_, rfl⟩
             replace H : (impl_Bound.l0 k2 ji62 x7_2 x8_2 l1 (l1.length : Int) (wrap64 (x30_1 + 1)) a0_0 a0_1 a0_2) = some (r1, r2) := by first | (rw [hji62] at H; exact H) | (simp only [hji62] at H ⊢; exact H)
             have hji62_ : (if x6_1 < x11_2 then x11_2 else x6_1) = ji62 := hji62
             have H' := Aside0.mk H
             clear H
             go_wp2
             go_roundg k2
             case measure => have := HK1.out; have := HK2.out; omega
             case rel => exact ⟨(ji62), (x7_2), (x8_2), (wrap64 (x30_1 + 1)), (by first | rfl | (simp; done) | (simp only [← hji62] <;> (first | rfl | simp)) | (simp [*]; done)), (by first | rfl | (simp; done) | (simp [*]; done)), H', ⟨by have := HK1.out; have := HK2.out; omega⟩, ⟨by (with_reducible repeat (first | apply Kd.R_alloc | apply Kd.R_drewN | apply Kd.R_drew)); exact HO_7.out⟩, ⟨by (with_reducible repeat (first | refine blk_drewN ?_ _ | refine blk_drew ?_ | refine blk_alloc ?_ _)); exact BK195.out⟩, ⟨⟨_, (by (with_reducible repeat (first | refine blk_drewN ?_ _ | refine blk_drew ?_ | refine blk_alloc ?_ _ | refine Seen.obj_far ?_ GNE195.out _ | refine Seen.obj_far ?_ GNE201.out _)); exact BKM.out), HS.out⟩⟩, ⟨by repeat (first | (with_reducible first | exact HB.out | apply below_alloc | apply pw_below_drewN | apply below_drew1 | refine below_set ?_ GE195.out | refine below_set ?_ GE201.out) | exact HB.out)⟩⟩
         ·rw [if_neg c17] at H
          exact absurd H (by simp)
        ·rw [if_neg c16] at H
         exact absurd H (by simp)
       ·rw [if_neg c15] at H
        have c15b0 : decide (x30_1 < (l1.length : Int)) = false := decide_eq_false c15
        clear c15
        have H' := Aside0.mk H
        clear H
        obtain ⟨Ao63, co63, eo63⟩ := Kd.R_slice HO_7.out
        subst eo63
        go_wp2
        go_loopg [6, 81] k1 (fun kq v6 v81 w' => ∃ (x6_2 : Int) (x81_2 : Int), v6 = .int .i64 x6_2 ∧ v81 = .int .i64 x81_2 ∧ Aside0 (impl_Bound.l2 kq x6_2 x7_1 (x7_1.length : Int) x81_2 = some (r1, r2)) ∧ Aside0 (kq ≤ k1) ∧ Aside0 (Kd.R (Kd.int .i64) 3 w' w.heap.size (fun _ => True) (.slice Ao63 x7_1.length co63) x7_1) ∧ Aside0 (w'.heap[gb195]? = some (.cells #[.int .i64 a0_0, .int .i64 a0_1, .int .i64 a0_2] 38 (0, 0))) ∧ Aside0 (Below w.heap.size w w'))
        case atStart => exact ⟨(x6_1), (0), (by first | rfl | (simp; done) | (simp [*]; done)), (by first | rfl | (simp; done) | (simp [*]; done)), H', ⟨Nat.le_refl _⟩, ⟨by (with_reducible repeat (first | apply Kd.R_alloc | apply Kd.R_drewN | apply Kd.R_drew)); exact HO_7.out⟩, ⟨by (with_reducible repeat (first | refine blk_drewN ?_ _ | refine blk_drew ?_ | refine blk_alloc ?_ _)); exact BK195.out⟩, ⟨by repeat (first | (with_reducible first | exact HB.out | apply below_alloc | apply pw_below_drewN | apply below_drew1 | refine below_set ?_ GE195.out) | exact HB.out)⟩⟩
        case round =>
         clear H'
         try clear c1
         try clear c2
         try clear p2
         try clear q2
         try clear hx2
         try clear hf2
         try clear c3
         try clear c4
         try clear p4
         try clear q4
         try clear hx4
         try clear hf4
         try clear c5
         try clear p6
         try clear c15
         try clear c15b0
         try clear c16
         try clear c17
         try clear c20
         try clear p20
         try clear q20
         try clear hx20
         try clear c21
         try clear c21b0
         try clear c22
         try clear c22b0
         try clear c23
         try clear c23b0
         try clear c24
         try clear c24b0
         try clear c25
         try clear c25b0
         try clear p26
         try clear q26
         try clear hx26
         try clear hf26
         try clear c27
         try clear c27b0
         try clear c29
         try clear c30
         try clear c39
         try clear c40
         try clear c41
         try clear p43
         try clear q43
         try clear hx43
         try clear hf43
         try clear c45
         try clear c46
         try clear c55
         try clear c56
         try clear c57
         try clear hcz10_1
         try clear hcz10_2
         try clear hcz12_0
         try clear hcz12_1
         try clear hcz12_2
         try clear hcz20_0
         try clear hcz20_1
         try clear hcz20_2
         try clear hcz31_0
         try clear hcz31_1
         try clear hcz31_2
         try clear hcz31_3
         try clear hcz37_0
         try clear hcz37_1
         try clear hcz37_2
         try clear hcz37_3
         try clear hcz42_0
         try clear hcz42_1
         try clear hcz47_0
         try clear hcz47_1
         try clear hcz47_2
         try clear hcz47_3
         try clear hcz53_0
         try clear hcz53_1
         try clear hcz53_2
         try clear hcz53_3
         try clear hcz58_0
         try clear hcz58_1
         try clear hfz10_0
         try clear hfz10_1
         try clear hfz10_2
         try clear hfz12_0
         try clear hfz12_1
         try clear hfz12_2
         try clear hfz20_0
         try clear hfz20_1
         try clear hfz20_2
         try clear hfz31_0
         try clear hfz31_1
         try clear hfz31_2
         try clear hfz31_3
         try clear hfz37_0
         try clear hfz37_1
         try clear hfz37_2
         try clear hfz37_3
         try clear hfz42_0
         try clear hfz42_1
         try clear hfz47_0
         try clear hfz47_1
         try clear hfz47_2
         try clear hfz47_3
         try clear hfz53_0
         try clear hfz53_1
         try clear hfz53_2
         try clear hfz53_3
         try clear hfz58_0
         try clear hfz58_1
         try clear hx200_0
         try clear hx200_1
         try clear hx200_2
         try clear hx202_0
         try clear hx202_1
         try clear hx202_2
         try clear hx202_3
         try clear hx204_0
         try clear hx207_0
         try clear hx26_0
         try clear hx43_0
         try clear p2
         try clear p200
         try clear p202
         try clear p204
         try clear p207
         try clear p26
         try clear p43
         try clear q200
         try clear q202
         try clear q204
         try clear q207
         try clear q26
         try clear q43
         obtain ⟨x6_2, x81_2, rfl, rfl, HA, HK2, HO_79, BK195, HB⟩ := hrel
         cases gk with
         | zero => exact absurd HA.out (by simp [impl_Bound.l2])
         | succ k2 =>
          have H := HA.out
          clear HA
          simp only [impl_Bound.l2] at H
          by_cases c64 : x81_2 < (x7_1.length : Int)
          ·rw [if_pos c64] at H
           have c64b0 : decide (x81_2 < (x7_1.length : Int)) = true := decide_eq_true c64
           clear c64
           by_cases c65 : 0 ≤ x81_2
           ·rw [if_pos c65] at H
            have c65b0 : decide (0 ≤ x81_2) = true := decide_eq_true c65
            clear c65
            by_cases c66 : x81_2 < (x7_1.length : Int)
            ·rw [if_pos c66] at H
             have c66b0 : decide (x81_2 < (x7_1.length : Int)) = true := decide_eq_true c66
             clear c66
             obtain ⟨ji67, hji67⟩ : ∃ j_ : Int, (mx x6_2 (rd x7_1 x81_2)) = j_ := ⟨_, rfl⟩
             replace H : (impl_Bound.l2 k2 ji67 x7_1 (x7_1.length : Int) (wrap64 (x81_2 + 1))) = some (r1, r2) := by first | (rw [hji67] at H; exact H) | (simp only [hji67] at H ⊢; exact H)
             have hji67_ : (if x6_2 < (rd x7_1 x81_2) then (rd x7_1 x81_2) else x6_2) = ji67 := hji67
             have H' := Aside0.mk H
             clear H
             have p209 : 0 ≤ (x81_2 : Int) := of_decide_eq_true (by first | (with_reducible assumption) | assumption)
             have q209 : x81_2 < (x7_1.length : Int) := of_decide_eq_true (by first | (with_reducible assumption) | assumption)
             obtain ⟨ad209, e209, hx209_0⟩ := Kd.at_int (Kd.R_reads' HO_79.out).2.2 x81_2 p209 q209
             cases e209
             replace p209 := eq_true p209
             replace q209 := eq_true q209
             go_wp2
             go_roundg k2
             case measure => have := HK1.out; have := HK2.out; omega
             case rel => exact ⟨(ji67), (wrap64 (x81_2 + 1)), (by first | rfl | (simp; done) | (simp only [← hji67] <;> (first | rfl | simp)) | (simp [*]; done)), (by first | rfl | (simp; done) | (simp [*]; done)), H', ⟨by have := HK1.out; have := HK2.out; omega⟩, ⟨by (with_reducible repeat (first | apply Kd.R_alloc | apply Kd.R_drewN | apply Kd.R_drew)); exact HO_79.out⟩, ⟨by (with_reducible repeat (first | refine blk_drewN ?_ _ | refine blk_drew ?_ | refine blk_alloc ?_ _)); exact BK195.out⟩, ⟨by repeat (first | (with_reducible first | exact HB.out | apply below_alloc | apply pw_below_drewN | apply below_drew1 | refine below_set ?_ GE195.out) | exact HB.out)⟩⟩
            ·rw [if_neg c66] at H
             exact absurd H (by simp)
           ·rw [if_neg c65] at H
            exact absurd H (by simp)
          ·rw [if_neg c64] at H
           have c64b0 : decide (x81_2 < (x7_1.length : Int)) = false := decide_eq_false c64
           clear c64
           simp only [Option.some.injEq, Prod.mk.injEq] at H
           obtain ⟨rfl, rfl⟩ := H
           go_wp2
           go_ret2
           exact ⟨by first | rfl | (simp [errW_none, errW_some] <;> rfl) | (simp [*, errW_none, errW_some] <;> rfl), by repeat (first | (with_reducible first | exact HB.out | apply below_alloc | apply pw_below_drewN | apply below_drew1 | refine below_set ?_ GE195.out) | exact HB.out)⟩
    ·rw [if_neg c8] at H
     exact absurd H (by simp)
   ·rw [if_neg c7] at H
    exact absurd H (by simp)
  ·replace c6 := Bool.eq_false_iff.mpr c6
   subst c6
   have H1 : (some (0, 1)) = some (r1, r2) := by rw [if_neg (show ¬ (false = true) by decide)] at H; exact H
   clear H
   have H := H1
   clear H1
   simp only [Option.some.injEq, Prod.mk.injEq] at H
   obtain ⟨rfl, rfl⟩ := H
   go_enter Tryd.func20, Tryd.ntmps20
   go_wp2_with (first | ((with_reducible refine gate_dst (N := 2) rfl ?_); refine box_event ?hg (N := 2) ?hd (cs := #[.int .i64 a0_0, .int .i64 a0_1, .int .i64 a0_2]) (t := 38) ?hr ?_; (case hd => rfl); (case hg => rfl); (case hr => first | (go_simp; done) | (go_simp; rfl)); intro gb195 hg w68 hbox hb; have n0_ := Aside0.mk (below_step (by repeat (first | (with_reducible first | exact HB.out | apply below_alloc | apply pw_below_drewN | apply below_drew1) | exact HB.out)) hb); have n1_ := Aside0.mk (hbox); have n2_ := Aside0.mk ((by rw [hg]; exact (below_size (by repeat (first | (with_reducible first | exact HB.out | apply below_alloc | apply pw_below_drewN | apply below_drew1) | exact HB.out))) : w.heap.size ≤ gb195)); have n3_ := Aside0.mk ((by rw [hg]; exact (below_size (by repeat (first | (with_reducible first | exact HB.out | apply below_alloc | apply pw_below_drewN | apply below_drew1) | exact HB.out))) : w.heap.size ≤ gb195)); clear HB; have HB := n0_; have BK195 := n1_; have GW195 := n2_; have GE195 := n3_; clear n0_ n1_ n2_ n3_; clear hb hbox hg; have hcz69_0 : w68.cell? ⟨gb195, 0, none⟩ = some (.int .i64 a0_0) := (blk_cell BK195.out 0).trans rfl; have hcz69_1 : w68.cell? ⟨gb195, 1, none⟩ = some (.int .i64 a0_1) := (blk_cell BK195.out 1).trans rfl; have hcz69_2 : w68.cell? ⟨gb195, 2, none⟩ = some (.int .i64 a0_2) := (blk_cell BK195.out 2).trans rfl; have hfz69_0 := blk_frozen BK195.out 0; have hfz69_1 := blk_frozen BK195.out 1; have hfz69_2 := blk_frozen BK195.out 2) | ((with_reducible refine gate_callee (f := 17) rfl ?_); refine goesL_ (some 22) rfl rfl Tryd.func17 (by kernel_rfl) rfl #[.agg #[.int .i64 a0_0, .int .i64 a0_1, .int .i64 a0_2], .slice A1 l1.length c1] rfl (by (try simp only [List.map_toArray, List.map_cons, List.map_nil]); first | done | rfl | (simp only [List.length_drop, List.length_take]; rfl)) ?_; (with_reducible refine (impl_ShopOK.calls k a0_0 a0_1 a0_2 _ _ l1 false _ ?side1 ?side2 A5.out (laid_on HT0.out (by repeat (first | (with_reducible first | exact HB.out | apply below_alloc | apply pw_below_drewN | apply below_drew1 | refine below_set ?_ GE195.out) | exact HB.out)))).mono ?_); (case side1 => repeat (first | exact (Kd.C_below HR1.out HB.out) | (with_reducible refine Kd.C_alloc ?_ _) | (with_reducible refine Kd.C_drewN ?_ _) | (with_reducible refine Kd.C_drew ?_))); (case side2 => exact HC1.out); rintro e w70 ⟨rfl, hb⟩; refine ⟨_, rfl, ?_⟩; have n0_ := Aside0.mk (blk_below (g := gb195) (o := .cells #[.int .i64 a0_0, .int .i64 a0_1, .int .i64 a0_2] 38 (0, 0)) (by (with_reducible repeat (first | refine blk_drewN ?_ _ | refine blk_drew ?_ | refine blk_alloc ?_ _)); exact BK195.out) hb); have n1_ := Aside0.mk (below_step (by repeat (first | (with_reducible first | exact HB.out | apply below_alloc | apply pw_below_drewN | apply below_drew1 | refine below_set ?_ GE195.out) | exact HB.out)) hb); clear BK195; clear HB; have BK195 := n0_; have HB := n1_; clear n0_ n1_; (try clear hb); (try clear hb2); (try clear hk); (try clear hi)))
   go_ret2
   exact ⟨by first | rfl | (simp [errW_none, errW_some] <;> rfl) | (simp [*, errW_none, errW_some] <;> rfl), by repeat (first | (with_reducible first | exact HB.out | apply below_alloc | apply pw_below_drewN | apply below_drew1 | refine below_set ?_ GE195.out) | exact HB.out)⟩

end Go.Proofs.YthmeijbiemkbaaaDoor.PFnExactBound
