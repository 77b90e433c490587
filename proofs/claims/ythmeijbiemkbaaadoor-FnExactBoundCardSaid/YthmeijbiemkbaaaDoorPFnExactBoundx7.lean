/- Written for this claim by a program of this session: the functions that the law reaches, each with its contract. -/
import Derived.Test.YthmeijbiemkbaaaDoorPFnExactBoundx0
import Derived.Test.YthmeijbiemkbaaaDoorPFnExactBoundx6
namespace Go.Proofs.YthmeijbiemkbaaaDoor.PFnExactBound
open Go.RowKit Go.Proofs.YthmeijbiemkbaaaDoorW.PrintWords Go.Proofs.YthmeijbiemkbaaaDoorW.PrintLast Go.Proofs.YthmeijbiemkbaaaDoorW.PrintMore
attribute [local go_sem] i64_w max2_int min2_int max_two min_two max_three min_three max_four min_four   -- for this text's walks alone
set_option linter.unusedVariables false
set_option linter.unusedSimpArgs false

/-! ### spec_Bound: function 19 -/
mutual
def spec_Bound.l0 : Nat → List (S68) → Int → List Int → List Bool → Int → Int → Int → Int → Option (Int × Int)
 | 0, _, _, _, _, _, _, _, _ => none
 | k + 1, x1, x6, x7, x8, x9, x167000, x167001, x167002 => if x9 < (x1.length : Int) then (spec_Bound.l1 k x1 x6 x7 x8 x9 0 0 x167000 x167001 x167002) else (spec_Bound.l2 k x6 x7 0 x167000 x167001 x167002)
def spec_Bound.l1 : Nat → List (S68) → Int → List Int → List Bool → Int → Int → Int → Int → Int → Int → Option (Int × Int)
 | 0, _, _, _, _, _, _, _, _, _, _ => none
 | k + 1, x1, x6, x7, x8, x9, x10, x11, x167000, x167001, x167002 => if 0 ≤ x9 then (if x9 < (x1.length : Int) then (if x11 < (((rd_T68 x1 x9).f2).length : Int) then (if 0 ≤ x11 then (if 0 ≤ ((rd_T71 ((rd_T68 x1 x9).f2) x11).f0) then (if ((rd_T71 ((rd_T68 x1 x9).f2) x11).f0) < (x7.length : Int) then ((some (x7.set (((rd_T71 ((rd_T68 x1 x9).f2) x11).f0) : Int).toNat (wrap64 ((rd x7 ((rd_T71 ((rd_T68 x1 x9).f2) x11).f0)) + ((rd_T71 ((rd_T68 x1 x9).f2) x11).f1))) : List Int)).bind fun y179 => (if 0 ≤ (wrap64 ((wrap64 (10 * ((rd_T71 ((rd_T68 x1 x9).f2) x11).f0))) + ((rd_T71 ((rd_T68 x1 x9).f2) x11).f2))) then (if (wrap64 ((wrap64 (10 * ((rd_T71 ((rd_T68 x1 x9).f2) x11).f0))) + ((rd_T71 ((rd_T68 x1 x9).f2) x11).f2))) < (x8.length : Int) then (if (rdOf false x8 (wrap64 ((wrap64 (10 * ((rd_T71 ((rd_T68 x1 x9).f2) x11).f0))) + ((rd_T71 ((rd_T68 x1 x9).f2) x11).f2))) = true) then (spec_Bound.l1 k x1 x6 y179 x8 x9 (wrap64 (x10 + ((rd_T71 ((rd_T68 x1 x9).f2) x11).f1))) (wrap64 (x11 + 1)) x167000 x167001 x167002) else (spec_Bound.l1 k x1 x6 (y179.set (((rd_T71 ((rd_T68 x1 x9).f2) x11).f0) : Int).toNat (wrap64 ((rd y179 ((rd_T71 ((rd_T68 x1 x9).f2) x11).f0)) + x167001))) (x8.set ((wrap64 ((wrap64 (10 * ((rd_T71 ((rd_T68 x1 x9).f2) x11).f0))) + ((rd_T71 ((rd_T68 x1 x9).f2) x11).f2))) : Int).toNat true) x9 (wrap64 (x10 + ((rd_T71 ((rd_T68 x1 x9).f2) x11).f1))) (wrap64 (x11 + 1)) x167000 x167001 x167002)) else (none)) else (none))) else (none)) else (none)) else (none)) else (spec_Bound.l0 k x1 (mx x6 x10) x7 x8 (wrap64 (x9 + 1)) x167000 x167001 x167002)) else (none)) else (none)
def spec_Bound.l2 : Nat → Int → List Int → Int → Int → Int → Int → Option (Int × Int)
 | 0, _, _, _, _, _, _ => none
 | k + 1, x6, x7, x13, x167000, x167001, x167002 => if x13 < x167000 then (if 0 ≤ x13 then (if x13 < (x7.length : Int) then (spec_Bound.l2 k (mx x6 (rd x7 x13)) x7 (wrap64 (x13 + 1)) x167000 x167001 x167002) else (none)) else (none)) else (some (x6, 0))
end
def spec_Bound.f (k : Nat) (a0_0 : Int) (a0_1 : Int) (a0_2 : Int) (l1 : List (S68)) : Option (Int × Int) := if (l1.length : Int) > 4096 then (some (0, 2)) else ((spec_ShopOK.f k a0_0 a0_1 a0_2 l1).bind fun t167 => (if t167 = true then (if 0 ≤ a0_0 then (if (a0_0 : Int).toNat ≤ 35184372088832 then (if 0 ≤ (wrap64 (10 * a0_0)) then (if (wrap64 (10 * a0_0) : Int).toNat ≤ 281474976710656 then (spec_Bound.l0 k l1 0 (List.replicate (a0_0 : Int).toNat 0) (List.replicate (wrap64 (10 * a0_0) : Int).toNat false) 0 a0_0 a0_1 a0_2) else (none)) else (none)) else (none)) else (none)) else (some (0, 1))))
theorem spec_Bound.mono_l : ∀ k, (∀ y0 y1 y2 y3 y4 y5 y6 y7, LeO (spec_Bound.l0 k y0 y1 y2 y3 y4 y5 y6 y7) (spec_Bound.l0 (k + 1) y0 y1 y2 y3 y4 y5 y6 y7)) ∧ (∀ y0 y1 y2 y3 y4 y5 y6 y7 y8 y9, LeO (spec_Bound.l1 k y0 y1 y2 y3 y4 y5 y6 y7 y8 y9) (spec_Bound.l1 (k + 1) y0 y1 y2 y3 y4 y5 y6 y7 y8 y9)) ∧ (∀ y0 y1 y2 y3 y4 y5, LeO (spec_Bound.l2 k y0 y1 y2 y3 y4 y5) (spec_Bound.l2 (k + 1) y0 y1 y2 y3 y4 y5))
 | 0 => ⟨fun _ _ _ _ _ _ _ _ r h => by simp [spec_Bound.l0] at h, fun _ _ _ _ _ _ _ _ _ _ r h => by simp [spec_Bound.l1] at h, fun _ _ _ _ _ _ r h => by simp [spec_Bound.l2] at h⟩
 | k + 1 => by
  obtain ⟨ih0, ih1, ih2⟩ := spec_Bound.mono_l k
  refine ⟨?_, ?_, ?_⟩
  ·intro y0 y1 y2 y3 y4 y5 y6 y7
   unfold spec_Bound.l0
   repeat' first
   | (with_reducible exact ih0 _ _ _ _ _ _ _ _)
   | (with_reducible exact ih1 _ _ _ _ _ _ _ _ _ _)
   | (with_reducible exact ih2 _ _ _ _ _ _)
   | (with_reducible exact spec_ShopOK.mono _ _ _ _ _)
   | (with_reducible exact LeO.refl _)
   | (with_reducible exact LeO.none _)
   | (with_reducible refine LeO.ite ?_ ?_)
   | (with_reducible refine LeO.bind ?_ (fun _ => ?_))
   | exact ih0 _ _ _ _ _ _ _ _
   | exact ih1 _ _ _ _ _ _ _ _ _ _
   | exact ih2 _ _ _ _ _ _
   | exact spec_ShopOK.mono _ _ _ _ _
   | exact LeO.none _
   | refine LeO.ite ?_ ?_
   | refine LeO.bind ?_ (fun _ => ?_)
  ·intro y0 y1 y2 y3 y4 y5 y6 y7 y8 y9
   unfold spec_Bound.l1
   repeat' first
   | (with_reducible exact ih0 _ _ _ _ _ _ _ _)
   | (with_reducible exact ih1 _ _ _ _ _ _ _ _ _ _)
   | (with_reducible exact ih2 _ _ _ _ _ _)
   | (with_reducible exact spec_ShopOK.mono _ _ _ _ _)
   | (with_reducible exact LeO.refl _)
   | (with_reducible exact LeO.none _)
   | (with_reducible refine LeO.ite ?_ ?_)
   | (with_reducible refine LeO.bind ?_ (fun _ => ?_))
   | exact ih0 _ _ _ _ _ _ _ _
   | exact ih1 _ _ _ _ _ _ _ _ _ _
   | exact ih2 _ _ _ _ _ _
   | exact spec_ShopOK.mono _ _ _ _ _
   | exact LeO.none _
   | refine LeO.ite ?_ ?_
   | refine LeO.bind ?_ (fun _ => ?_)
  ·intro y0 y1 y2 y3 y4 y5
   unfold spec_Bound.l2
   repeat' first
   | (with_reducible exact ih0 _ _ _ _ _ _ _ _)
   | (with_reducible exact ih1 _ _ _ _ _ _ _ _ _ _)
   | (with_reducible exact ih2 _ _ _ _ _ _)
   | (with_reducible exact spec_ShopOK.mono _ _ _ _ _)
   | (with_reducible exact LeO.refl _)
   | (with_reducible exact LeO.none _)
   | (with_reducible refine LeO.ite ?_ ?_)
   | (with_reducible refine LeO.bind ?_ (fun _ => ?_))
   | exact ih0 _ _ _ _ _ _ _ _
   | exact ih1 _ _ _ _ _ _ _ _ _ _
   | exact ih2 _ _ _ _ _ _
   | exact spec_ShopOK.mono _ _ _ _ _
   | exact LeO.none _
   | refine LeO.ite ?_ ?_
   | refine LeO.bind ?_ (fun _ => ?_)
theorem spec_Bound.mono : ∀ a0 a1 a2 a3 k, LeO (spec_Bound.f k a0 a1 a2 a3) (spec_Bound.f (k + 1) a0 a1 a2 a3) := by
 intro a0 a1 a2 a3 k
 obtain ⟨ih0, ih1, ih2⟩ := spec_Bound.mono_l k
 unfold spec_Bound.f
 repeat' first
   | (with_reducible exact ih0 _ _ _ _ _ _ _ _)
   | (with_reducible exact ih1 _ _ _ _ _ _ _ _ _ _)
   | (with_reducible exact ih2 _ _ _ _ _ _)
   | (with_reducible exact spec_ShopOK.mono _ _ _ _ _)
   | (with_reducible exact LeO.refl _)
   | (with_reducible exact LeO.none _)
   | (with_reducible refine LeO.ite ?_ ?_)
   | (with_reducible refine LeO.bind ?_ (fun _ => ?_))
   | exact ih0 _ _ _ _ _ _ _ _
   | exact ih1 _ _ _ _ _ _ _ _ _ _
   | exact ih2 _ _ _ _ _ _
   | exact spec_ShopOK.mono _ _ _ _ _
   | exact LeO.none _
   | refine LeO.ite ?_ ?_
   | refine LeO.bind ?_ (fun _ => ?_)
def spec_Bound.T17 : Bool × List (List Nat × List Nat) := (true, [([], []), ([], []), ([1], [1]), ([0, 2], [0, 2]), ([3], [3]), ([], []), ([5], [5]), ([4, 6], [4, 6]), ([0, 2, 0, 1, 2, 3, 4, 5, 6, 7], [0, 2]), ([8, 7, 0, 1, 2, 3, 4, 5, 6, 7], [7, 8])])
def spec_Bound.B17 : List Nat := [0, 0, 2, 7, 15, 0, 32, 127, 255, 511]
theorem spec_Bound.tab17 : rtab .any (opsOf Tryd.f19 17) = spec_Bound.T17 := by kernel_rfl
theorem spec_Bound.bits17 : waitsOk spec_Bound.T17.2 spec_Bound.B17 = true := by kernel_rfl
def spec_Bound.T20 : Bool × List (List Nat × List Nat) := (true, [([], []), ([], []), ([1], [1]), ([0, 2], [0, 2]), ([3], [3]), ([], []), ([5], [5]), ([4, 6], [4, 6]), ([0, 2, 0, 1, 2, 3, 4, 5, 6, 7], [0, 2]), ([8, 7, 0, 1, 2, 3, 4, 5, 6, 7], [7, 8])])
def spec_Bound.B20 : List Nat := [0, 0, 2, 7, 15, 0, 32, 127, 255, 511]
theorem spec_Bound.tab20 : rtab .any (opsOf Tryd.f19 20) = spec_Bound.T20 := by kernel_rfl
theorem spec_Bound.bits20 : waitsOk spec_Bound.T20.2 spec_Bound.B20 = true := by kernel_rfl
set_option maxHeartbeats 8000000 in
set_option maxRecDepth 100000 in
theorem spec_Bound.calls (k : Nat) (a0_0 : Int) (a0_1 : Int) (a0_2 : Int) (A1 : Option Addr) (c1 : Nat) (l1 : List (S68)) (r1 : Int) (r2 : Int) (w : World) (hr1 : Kd.C k68 w A1 l1.length l1) (hc1 : l1.length ≤ c1) (h : spec_Bound.f k a0_0 a0_1 a0_2 l1 = some (r1, r2)) :
  Calls Tryd.prog 19 #[.agg #[.int .i64 a0_0, .int .i64 a0_1, .int .i64 a0_2], .slice A1 l1.length c1] w fun e w' => e = .returned (.tuple #[.int .i64 r1, .int .i64 r2]) ∧ Below w.heap.size w w' := by
 have hu38 := Tryd.underlying38
 have hu71 := Tryd.underlying71
 have HR1 := Aside0.mk hr1
 have HC1 := Aside0.mk hc1
 clear hr1 hc1
 have HB := Aside0.mk (Below.refl w.heap.size w)
 have H : (if (l1.length : Int) > 4096 then (some (0, 2)) else ((spec_ShopOK.f k a0_0 a0_1 a0_2 l1).bind fun t167 => (if t167 = true then (if 0 ≤ a0_0 then (if (a0_0 : Int).toNat ≤ 35184372088832 then (if 0 ≤ (wrap64 (10 * a0_0)) then (if (wrap64 (10 * a0_0) : Int).toNat ≤ 281474976710656 then (spec_Bound.l0 k l1 0 (List.replicate (a0_0 : Int).toNat 0) (List.replicate (wrap64 (10 * a0_0) : Int).toNat false) 0 a0_0 a0_1 a0_2) else (none)) else (none)) else (none)) else (none)) else (some (0, 1))))) = some (r1, r2) := h
 clear h
 by_cases c3 : (l1.length : Int) > 4096
 ·rw [if_pos c3] at H
  have c3b0 : decide (4096 < (l1.length : Int)) = true := decide_eq_true c3
  have c3b1 : decide (4096 < l1.length) = true := decide_eq_true (by omega)
  clear c3
  simp only [Option.some.injEq, Prod.mk.injEq] at H
  obtain ⟨rfl, rfl⟩ := H
  go_enter Tryd.func19, Tryd.ntmps19
  go_wp2_with (first | ((with_reducible refine gate_dst (N := 2) rfl ?_); refine box_event ?hg (N := 2) ?hd (cs := #[.int .i64 a0_0, .int .i64 a0_1, .int .i64 a0_2]) (t := 38) ?hr ?_; (case hd => rfl); (case hg => rfl); (case hr => first | (go_simp; done) | (go_simp; rfl)); intro gb166 hg w4 hbox hb; have n0_ := Aside0.mk (below_step (by repeat (first | (with_reducible first | exact HB.out | apply below_alloc | apply pw_below_drewN | apply below_drew1) | exact HB.out)) hb); have n1_ := Aside0.mk (hbox); have n2_ := Aside0.mk ((by rw [hg]; exact (below_size (by repeat (first | (with_reducible first | exact HB.out | apply below_alloc | apply pw_below_drewN | apply below_drew1) | exact HB.out))) : w.heap.size ≤ gb166)); have n3_ := Aside0.mk ((by rw [hg]; exact (below_size (by repeat (first | (with_reducible first | exact HB.out | apply below_alloc | apply pw_below_drewN | apply below_drew1) | exact HB.out))) : w.heap.size ≤ gb166)); clear HB; have HB := n0_; have BK166 := n1_; have GW166 := n2_; have GE166 := n3_; clear n0_ n1_ n2_ n3_; clear hb hbox hg))
  go_ret2
  exact ⟨by first | rfl | (simp [errW_none, errW_some] <;> rfl) | (simp [*, errW_none, errW_some] <;> rfl), by repeat (first | (with_reducible first | exact HB.out | apply below_alloc | apply pw_below_drewN | apply below_drew1 | refine below_set ?_ GE166.out) | exact HB.out)⟩
 ·rw [if_neg c3] at H
  have c3b0 : decide (4096 < (l1.length : Int)) = false := decide_eq_false c3
  have c3b1 : decide (4096 < l1.length) = false := decide_eq_false (by omega)
  clear c3
  replace H := Option.bind_eq_some_iff.mp H
  obtain ⟨t167, A50, H⟩ := H
  replace H : (if t167 = true then (if 0 ≤ a0_0 then (if (a0_0 : Int).toNat ≤ 35184372088832 then (if 0 ≤ (wrap64 (10 * a0_0)) then (if (wrap64 (10 * a0_0) : Int).toNat ≤ 281474976710656 then (spec_Bound.l0 k l1 0 (List.replicate (a0_0 : Int).toNat 0) (List.replicate (wrap64 (10 * a0_0) : Int).toNat false) 0 a0_0 a0_1 a0_2) else (none)) else (none)) else (none)) else (none)) else (some (0, 1))) = some (r1, r2) := H
  have A5 := Aside0.mk A50
  clear A50
  by_cases c6 : t167 = true
  ·subst c6
   have H1 : (if 0 ≤ a0_0 then (if (a0_0 : Int).toNat ≤ 35184372088832 then (if 0 ≤ (wrap64 (10 * a0_0)) then (if (wrap64 (10 * a0_0) : Int).toNat ≤ 281474976710656 then (spec_Bound.l0 k l1 0 (List.replicate (a0_0 : Int).toNat 0) (List.replicate (wrap64 (10 * a0_0) : Int).toNat false) 0 a0_0 a0_1 a0_2) else (none)) else (none)) else (none)) else (none)) = some (r1, r2) := by rw [if_pos rfl] at H; exact H
   clear H
   have H := H1
   clear H1
   by_cases c7 : 0 ≤ a0_0
   ·rw [if_pos c7] at H
    have c7b0 := eq_true c7
    have c7b1 : decide (0 ≤ a0_0) = true := decide_eq_true c7
    clear c7
    by_cases c8 : (a0_0 : Int).toNat ≤ 35184372088832
    ·rw [if_pos c8] at H
     have c8b0 := eq_true c8
     have c8b1 : decide ((a0_0 : Int).toNat ≤ 35184372088832) = true := decide_eq_true c8
     clear c8
     obtain ⟨y168, hy168⟩ : ∃ y_ : List Int, y_ = (List.replicate (a0_0 : Int).toNat 0) := ⟨_, rfl⟩
     replace H : (if 0 ≤ (wrap64 (10 * a0_0)) then (if (wrap64 (10 * a0_0) : Int).toNat ≤ 281474976710656 then (spec_Bound.l0 k l1 0 y168 (List.replicate (wrap64 (10 * a0_0) : Int).toNat false) 0 a0_0 a0_1 a0_2) else (none)) else (none)) = some (r1, r2) := by first | (rw [hy168]; with_reducible exact H) | (have H2_ := (Option.bind_some _ _).symm.trans H; rw [hy168]; with_reducible exact H2_) | (have H2_ := (Option.bind_some _ _).symm.trans H; with_reducible exact H2_) | with_reducible exact H | (rw [hy168]; exact H) | exact H
     have Ny168 := Aside0.mk hy168
     clear hy168
     obtain ⟨ji9, hji9⟩ : ∃ j_ : Int, (wrap64 (10 * a0_0)) = j_ := ⟨_, rfl⟩
     replace H : (if 0 ≤ (ji9) then (if (ji9 : Int).toNat ≤ 281474976710656 then (spec_Bound.l0 k l1 0 y168 (List.replicate (ji9 : Int).toNat false) 0 a0_0 a0_1 a0_2) else (none)) else (none)) = some (r1, r2) := by first | (rw [hji9] at H; exact H) | (simp only [hji9] at H ⊢; exact H)
     (try rw [hji9] at A5)
     have hji9w : (IntKind.i64.wrap (10 * a0_0)) = ji9 := (i64_w _).trans hji9
     by_cases c10 : 0 ≤ (ji9)
     ·rw [if_pos c10] at H
      have c10b0 := eq_true c10
      have c10b1 : decide (0 ≤ (ji9)) = true := decide_eq_true c10
      clear c10
      by_cases c11 : (ji9 : Int).toNat ≤ 281474976710656
      ·rw [if_pos c11] at H
       have c11b0 := eq_true c11
       have c11b1 : decide ((ji9 : Int).toNat ≤ 281474976710656) = true := decide_eq_true c11
       clear c11
       obtain ⟨y171, hy171⟩ : ∃ y_ : List Bool, y_ = (List.replicate (ji9 : Int).toNat false) := ⟨_, rfl⟩
       replace H : (spec_Bound.l0 k l1 0 y168 y171 0 a0_0 a0_1 a0_2) = some (r1, r2) := by first | (rw [hy171]; with_reducible exact H) | (have H2_ := (Option.bind_some _ _).symm.trans H; rw [hy171]; with_reducible exact H2_) | (have H2_ := (Option.bind_some _ _).symm.trans H; with_reducible exact H2_) | with_reducible exact H | (rw [hy171]; exact H) | exact H
       have Ny171 := Aside0.mk hy171
       clear hy171
       have H' := Aside0.mk H
       clear H
       go_enter Tryd.func19, Tryd.ntmps19
       go_wp2_with (first | ((with_reducible refine gate_dst (N := 2) rfl ?_); refine box_event ?hg (N := 2) ?hd (cs := #[.int .i64 a0_0, .int .i64 a0_1, .int .i64 a0_2]) (t := 38) ?hr ?_; (case hd => rfl); (case hg => rfl); (case hr => first | (go_simp; done) | (go_simp; rfl)); intro gb166 hg w12 hbox hb; have n0_ := Aside0.mk (below_step (by repeat (first | (with_reducible first | exact HB.out | apply below_alloc | apply pw_below_drewN | apply below_drew1) | exact HB.out)) hb); have n1_ := Aside0.mk (hbox); have n2_ := Aside0.mk ((by rw [hg]; exact (below_size (by repeat (first | (with_reducible first | exact HB.out | apply below_alloc | apply pw_below_drewN | apply below_drew1) | exact HB.out))) : w.heap.size ≤ gb166)); have n3_ := Aside0.mk ((by rw [hg]; exact (below_size (by repeat (first | (with_reducible first | exact HB.out | apply below_alloc | apply pw_below_drewN | apply below_drew1) | exact HB.out))) : w.heap.size ≤ gb166)); clear HB; have HB := n0_; have BK166 := n1_; have GW166 := n2_; have GE166 := n3_; clear n0_ n1_ n2_ n3_; clear hb hbox hg; have hcz13_0 : w12.cell? ⟨gb166, 0, none⟩ = some (.int .i64 a0_0) := (blk_cell BK166.out 0).trans rfl; have hcz13_1 : w12.cell? ⟨gb166, 1, none⟩ = some (.int .i64 a0_1) := (blk_cell BK166.out 1).trans rfl; have hcz13_2 : w12.cell? ⟨gb166, 2, none⟩ = some (.int .i64 a0_2) := (blk_cell BK166.out 2).trans rfl; have hfz13_0 := blk_frozen BK166.out 0; have hfz13_1 := blk_frozen BK166.out 1; have hfz13_2 := blk_frozen BK166.out 2) | ((with_reducible refine gate_callee (f := 14) rfl ?_); refine goesL_ (some 19) rfl rfl Tryd.func14 (by kernel_rfl) rfl #[.agg #[.int .i64 a0_0, .int .i64 a0_1, .int .i64 a0_2], .slice A1 l1.length c1] rfl (by (try simp only [List.map_toArray, List.map_cons, List.map_nil]); first | done | rfl | (simp only [List.length_drop, List.length_take]; rfl)) ?_; (with_reducible refine (spec_ShopOK.calls k a0_0 a0_1 a0_2 _ _ l1 true _ ?side1 ?side2 A5.out).mono ?_); (case side1 => repeat (first | exact (Kd.C_below HR1.out HB.out) | (with_reducible refine Kd.C_alloc ?_ _) | (with_reducible refine Kd.C_drewN ?_ _) | (with_reducible refine Kd.C_drew ?_))); (case side2 => exact HC1.out); rintro e w14 ⟨rfl, hb⟩; refine ⟨_, rfl, ?_⟩; have n0_ := Aside0.mk (blk_below (g := gb166) (o := .cells #[.int .i64 a0_0, .int .i64 a0_1, .int .i64 a0_2] 38 (0, 0)) (by (with_reducible repeat (first | refine blk_drewN ?_ _ | refine blk_drew ?_ | refine blk_alloc ?_ _)); exact BK166.out) hb); have n1_ := Aside0.mk (below_step (by repeat (first | (with_reducible first | exact HB.out | apply below_alloc | apply pw_below_drewN | apply below_drew1 | refine below_set ?_ GE166.out) | exact HB.out)) hb); clear BK166; clear HB; have BK166 := n0_; have HB := n1_; clear n0_ n1_; (try clear hb); (try clear hb2); (try clear hk); (try clear hi); have hcz15_0 : w14.cell? ⟨gb166, 0, none⟩ = some (.int .i64 a0_0) := (blk_cell BK166.out 0).trans rfl; have hcz15_1 : w14.cell? ⟨gb166, 1, none⟩ = some (.int .i64 a0_1) := (blk_cell BK166.out 1).trans rfl; have hcz15_2 : w14.cell? ⟨gb166, 2, none⟩ = some (.int .i64 a0_2) := (blk_cell BK166.out 2).trans rfl; have hfz15_0 := blk_frozen BK166.out 0; have hfz15_1 := blk_frozen BK166.out 1; have hfz15_2 := blk_frozen BK166.out 2) | ((with_reducible refine gate_dst (N := 23) rfl ?_); refine Kd.R_make (Kd.int .i64) _ 3 rfl (N := 23) rfl 46 _ _ rfl a0_0 rfl rfl Tryd.underlying46 (.int .i64 0) 8 info3 rfl (by decide) (by omega) 0 (ok := fun _ => True) (okp := fun _ => True) rfl (fun _ hk => hk) trivial (of_decide_eq_true (by first | (with_reducible assumption) | assumption)) (Nat.le_trans (Nat.mul_le_mul_right _ (of_decide_eq_true (by first | (with_reducible assumption) | assumption) : a0_0.toNat ≤ 35184372088832)) (by omega)) (Below.refl _ _) (Nat.le_refl _) ?_; intro v169 w16 ho17 hb hg_ hnew_; clear hg_ hnew_; (first | rw [← Ny168.out] at ho17 | (simp only [Int.reduceToNat] at ho17; rw [← Ny168.out] at ho17)); have n0_ := Aside0.mk (Kd.R_lower ho17 (below_size (by repeat (first | (with_reducible first | exact HB.out | apply below_alloc | apply pw_below_drewN | apply below_drew1 | refine below_set ?_ GE166.out) | exact HB.out)))); have n1_ := Aside0.mk (blk_below (g := gb166) (o := .cells #[.int .i64 a0_0, .int .i64 a0_1, .int .i64 a0_2] 38 (0, 0)) (by (with_reducible repeat (first | refine blk_drewN ?_ _ | refine blk_drew ?_ | refine blk_alloc ?_ _)); exact BK166.out) hb); have n2_ := Aside0.mk (below_step (by repeat (first | (with_reducible first | exact HB.out | apply below_alloc | apply pw_below_drewN | apply below_drew1 | refine below_set ?_ GE166.out) | exact HB.out)) hb); clear BK166; clear HB; have HO170 := n0_; have BK166 := n1_; have HB := n2_; clear n0_ n1_ n2_; clear hb ho17; have hcz18_0 : w16.cell? ⟨gb166, 0, none⟩ = some (.int .i64 a0_0) := (blk_cell BK166.out 0).trans rfl; have hcz18_1 : w16.cell? ⟨gb166, 1, none⟩ = some (.int .i64 a0_1) := (blk_cell BK166.out 1).trans rfl; have hcz18_2 : w16.cell? ⟨gb166, 2, none⟩ = some (.int .i64 a0_2) := (blk_cell BK166.out 2).trans rfl; have hfz18_0 := blk_frozen BK166.out 0; have hfz18_1 := blk_frozen BK166.out 1; have hfz18_2 := blk_frozen BK166.out 2) | ((with_reducible refine gate_dst (N := 27) rfl ?_); refine Kd.R_make Kd.bool _ 4 rfl (N := 27) rfl 75 _ _ rfl ji9 rfl rfl Tryd.underlying75 (.bool false) 1 info4 rfl (by decide) (by omega) false (ok := fun _ => True) (okp := fun _ => True) rfl (fun _ hk => hk) trivial (of_decide_eq_true (by first | (with_reducible assumption) | assumption)) (Nat.le_trans (Nat.mul_le_mul_right _ (of_decide_eq_true (by first | (with_reducible assumption) | assumption) : ji9.toNat ≤ 281474976710656)) (by omega)) (Below.refl _ _) (Nat.le_refl _) ?_; intro v172 w19 ho20 hb hg_ hnew_; clear hg_ hnew_; (first | rw [← Ny171.out] at ho20 | (simp only [Int.reduceToNat] at ho20; rw [← Ny171.out] at ho20)); have n0_ := Aside0.mk (Kd.R_below (by (with_reducible repeat (first | apply Kd.R_alloc | apply Kd.R_drewN | apply Kd.R_drew)); exact HO170.out) hb); have n1_ := Aside0.mk (Kd.R_lower ho20 (below_size (by repeat (first | (with_reducible first | exact HB.out | apply below_alloc | apply pw_below_drewN | apply below_drew1 | refine below_set ?_ GE166.out) | exact HB.out)))); have n2_ := Aside0.mk (blk_below (g := gb166) (o := .cells #[.int .i64 a0_0, .int .i64 a0_1, .int .i64 a0_2] 38 (0, 0)) (by (with_reducible repeat (first | refine blk_drewN ?_ _ | refine blk_drew ?_ | refine blk_alloc ?_ _)); exact BK166.out) hb); have n3_ := Aside0.mk (below_step (by repeat (first | (with_reducible first | exact HB.out | apply below_alloc | apply pw_below_drewN | apply below_drew1 | refine below_set ?_ GE166.out) | exact HB.out)) hb); clear HO170; clear BK166; clear HB; have HO170 := n0_; have HO173 := n1_; have BK166 := n2_; have HB := n3_; clear n0_ n1_ n2_ n3_; clear hb ho20))
       go_loopg [6, 9] k (fun kq v6 v9 w' => ∃ (x6_1 : Int) (x7_1 : List Int) (x8_1 : List Bool) (x9_1 : Int), v6 = .int .i64 x6_1 ∧ v9 = .int .i64 x9_1 ∧ Aside0 (spec_Bound.l0 kq l1 x6_1 x7_1 x8_1 x9_1 a0_0 a0_1 a0_2 = some (r1, r2)) ∧ Aside0 (kq ≤ k) ∧ Aside0 (Kd.R (Kd.int .i64) 3 w' w.heap.size (fun _ => True) v169 x7_1) ∧ Aside0 (Kd.R Kd.bool 4 w' w.heap.size (fun _ => True) v172 x8_1) ∧ Aside0 (w'.heap[gb166]? = some (.cells #[.int .i64 a0_0, .int .i64 a0_1, .int .i64 a0_2] 38 (0, 0))) ∧ Aside0 (Below w.heap.size w w'))
       case atStart => exact ⟨(0), (y168), (y171), (0), (by first | rfl | (simp; done) | (simp [*]; done)), (by first | rfl | (simp; done) | (simp [*]; done)), H', ⟨Nat.le_refl _⟩, ⟨by (with_reducible repeat (first | apply Kd.R_alloc | apply Kd.R_drewN | apply Kd.R_drew)); exact HO170.out⟩, ⟨by (with_reducible repeat (first | apply Kd.R_alloc | apply Kd.R_drewN | apply Kd.R_drew)); exact HO173.out⟩, ⟨by (with_reducible repeat (first | refine blk_drewN ?_ _ | refine blk_drew ?_ | refine blk_alloc ?_ _)); exact BK166.out⟩, ⟨by repeat (first | (with_reducible first | exact HB.out | apply below_alloc | apply pw_below_drewN | apply below_drew1 | refine below_set ?_ GE166.out) | exact HB.out)⟩⟩
       case round =>
        clear H'
        try clear c1
        try clear p2
        try clear c3
        try clear c3b0
        try clear c3b1
        try clear c6
        try clear p6
        try clear c7
        try clear c7b0
        try clear c7b1
        try clear c8
        try clear c8b0
        try clear c8b1
        try clear c10
        try clear c10b0
        try clear c10b1
        try clear c11
        try clear c11b0
        try clear c11b1
        try clear c14
        try clear c19
        try clear hcz13_0
        try clear hcz13_1
        try clear hcz13_2
        try clear hcz15_0
        try clear hcz15_1
        try clear hcz15_2
        try clear hcz18_0
        try clear hcz18_1
        try clear hcz18_2
        try clear hfz13_0
        try clear hfz13_1
        try clear hfz13_2
        try clear hfz15_0
        try clear hfz15_1
        try clear hfz15_2
        try clear hfz18_0
        try clear hfz18_1
        try clear hfz18_2
        obtain ⟨x6_1, x7_1, x8_1, x9_1, rfl, rfl, HA, HK1, HO_7, HO_8, BK166, HB⟩ := hrel
        cases gk with
        | zero => exact absurd HA.out (by simp [spec_Bound.l0])
        | succ k1 =>
         have H := HA.out
         clear HA
         simp only [spec_Bound.l0] at H
         by_cases c21 : x9_1 < (l1.length : Int)
         ·rw [if_pos c21] at H
          have c21b0 : decide (x9_1 < (l1.length : Int)) = true := decide_eq_true c21
          clear c21
          have H' := Aside0.mk H
          clear H
          go_wp2
          go_loopg [10, 11] k1 (fun kq v10 v11 w' => ∃ (x7_2 : List Int) (x8_2 : List Bool) (x10_2 : Int) (x11_2 : Int), v10 = .int .i64 x10_2 ∧ v11 = .int .i64 x11_2 ∧ Aside0 (spec_Bound.l1 kq l1 x6_1 x7_2 x8_2 x9_1 x10_2 x11_2 a0_0 a0_1 a0_2 = some (r1, r2)) ∧ Aside0 (kq ≤ k1) ∧ Aside0 (Kd.R (Kd.int .i64) 3 w' w.heap.size (fun _ => True) v169 x7_2) ∧ Aside0 (Kd.R Kd.bool 4 w' w.heap.size (fun _ => True) v172 x8_2) ∧ Aside0 (w'.heap[gb166]? = some (.cells #[.int .i64 a0_0, .int .i64 a0_1, .int .i64 a0_2] 38 (0, 0))) ∧ Aside0 (Below w.heap.size w w'))
          case atStart => exact ⟨(x7_1), (x8_1), (0), (0), (by first | rfl | (simp; done) | (simp [*]; done)), (by first | rfl | (simp; done) | (simp [*]; done)), H', ⟨Nat.le_refl _⟩, ⟨by (with_reducible repeat (first | apply Kd.R_alloc | apply Kd.R_drewN | apply Kd.R_drew)); exact HO_7.out⟩, ⟨by (with_reducible repeat (first | apply Kd.R_alloc | apply Kd.R_drewN | apply Kd.R_drew)); exact HO_8.out⟩, ⟨by (with_reducible repeat (first | refine blk_drewN ?_ _ | refine blk_drew ?_ | refine blk_alloc ?_ _)); exact BK166.out⟩, ⟨by repeat (first | (with_reducible first | exact HB.out | apply below_alloc | apply pw_below_drewN | apply below_drew1 | refine below_set ?_ GE166.out) | exact HB.out)⟩⟩
          case round =>
           clear H'
           try clear c1
           try clear c2
           try clear p2
           try clear c3
           try clear c3b0
           try clear c3b1
           try clear c6
           try clear p6
           try clear c7
           try clear c7b0
           try clear c7b1
           try clear c8
           try clear c8b0
           try clear c8b1
           try clear c10
           try clear c10b0
           try clear c10b1
           try clear c11
           try clear c11b0
           try clear c11b1
           try clear c14
           try clear c19
           try clear c21
           try clear c21b0
           try clear hcz13_0
           try clear hcz13_1
           try clear hcz13_2
           try clear hcz15_0
           try clear hcz15_1
           try clear hcz15_2
           try clear hcz18_0
           try clear hcz18_1
           try clear hcz18_2
           try clear hfz13_0
           try clear hfz13_1
           try clear hfz13_2
           try clear hfz15_0
           try clear hfz15_1
           try clear hfz15_2
           try clear hfz18_0
           try clear hfz18_1
           try clear hfz18_2
           try clear p2
           try clear p6
           obtain ⟨x7_2, x8_2, x10_2, x11_2, rfl, rfl, HA, HK2, HO_7, HO_8, BK166, HB⟩ := hrel
           cases gk with
           | zero => exact absurd HA.out (by simp [spec_Bound.l1])
           | succ k2 =>
            have H := HA.out
            clear HA
            simp only [spec_Bound.l1] at H
            by_cases c22 : 0 ≤ x9_1
            ·rw [if_pos c22] at H
             have c22b0 : decide (0 ≤ x9_1) = true := decide_eq_true c22
             clear c22
             by_cases c23 : x9_1 < (l1.length : Int)
             ·rw [if_pos c23] at H
              have c23b0 : decide (x9_1 < (l1.length : Int)) = true := decide_eq_true c23
              clear c23
              by_cases c24 : x11_2 < (((rd_T68 l1 x9_1).f2).length : Int)
              ·rw [if_pos c24] at H
               have c24b0 : decide (x11_2 < (((rd_T68 l1 x9_1).f2).length : Int)) = true := decide_eq_true c24
               clear c24
               by_cases c25 : 0 ≤ x11_2
               ·rw [if_pos c25] at H
                have c25b0 : decide (0 ≤ x11_2) = true := decide_eq_true c25
                clear c25
                by_cases c26 : 0 ≤ ((rd_T71 ((rd_T68 l1 x9_1).f2) x11_2).f0)
                ·rw [if_pos c26] at H
                 have c26b0 : decide (0 ≤ ((rd_T71 ((rd_T68 l1 x9_1).f2) x11_2).f0)) = true := decide_eq_true c26
                 clear c26
                 by_cases c27 : ((rd_T71 ((rd_T68 l1 x9_1).f2) x11_2).f0) < (x7_2.length : Int)
                 ·rw [if_pos c27] at H
                  have c27b0 : decide (((rd_T71 ((rd_T68 l1 x9_1).f2) x11_2).f0) < (x7_2.length : Int)) = true := decide_eq_true c27
                  clear c27
                  obtain ⟨y179, hy179⟩ : ∃ y_ : List Int, y_ = (x7_2.set (((rd_T71 ((rd_T68 l1 x9_1).f2) x11_2).f0) : Int).toNat (wrap64 ((rd x7_2 ((rd_T71 ((rd_T68 l1 x9_1).f2) x11_2).f0)) + ((rd_T71 ((rd_T68 l1 x9_1).f2) x11_2).f1)))) := ⟨_, rfl⟩
                  replace H : (if 0 ≤ (wrap64 ((wrap64 (10 * ((rd_T71 ((rd_T68 l1 x9_1).f2) x11_2).f0))) + ((rd_T71 ((rd_T68 l1 x9_1).f2) x11_2).f2))) then (if (wrap64 ((wrap64 (10 * ((rd_T71 ((rd_T68 l1 x9_1).f2) x11_2).f0))) + ((rd_T71 ((rd_T68 l1 x9_1).f2) x11_2).f2))) < (x8_2.length : Int) then (if (rdOf false x8_2 (wrap64 ((wrap64 (10 * ((rd_T71 ((rd_T68 l1 x9_1).f2) x11_2).f0))) + ((rd_T71 ((rd_T68 l1 x9_1).f2) x11_2).f2))) = true) then (spec_Bound.l1 k2 l1 x6_1 y179 x8_2 x9_1 (wrap64 (x10_2 + ((rd_T71 ((rd_T68 l1 x9_1).f2) x11_2).f1))) (wrap64 (x11_2 + 1)) a0_0 a0_1 a0_2) else (spec_Bound.l1 k2 l1 x6_1 (y179.set (((rd_T71 ((rd_T68 l1 x9_1).f2) x11_2).f0) : Int).toNat (wrap64 ((rd y179 ((rd_T71 ((rd_T68 l1 x9_1).f2) x11_2).f0)) + a0_1))) (x8_2.set ((wrap64 ((wrap64 (10 * ((rd_T71 ((rd_T68 l1 x9_1).f2) x11_2).f0))) + ((rd_T71 ((rd_T68 l1 x9_1).f2) x11_2).f2))) : Int).toNat true) x9_1 (wrap64 (x10_2 + ((rd_T71 ((rd_T68 l1 x9_1).f2) x11_2).f1))) (wrap64 (x11_2 + 1)) a0_0 a0_1 a0_2)) else (none)) else (none)) = some (r1, r2) := by first | (rw [hy179]; with_reducible exact H) | (have H2_ := (Option.bind_some _ _).symm.trans H; rw [hy179]; with_reducible exact H2_) | (have H2_ := (Option.bind_some _ _).symm.trans H; with_reducible exact H2_) | with_reducible exact H | (rw [hy179]; exact H) | exact H
                  have Ny179 := Aside0.mk hy179
                  clear hy179
                  obtain ⟨ji29, hji29⟩ : ∃ j_ : Int, (wrap64 ((wrap64 (10 * ((rd_T71 ((rd_T68 l1 x9_1).f2) x11_2).f0))) + ((rd_T71 ((rd_T68 l1 x9_1).f2) x11_2).f2))) = j_ := ⟨_, rfl⟩
                  replace H : (if 0 ≤ (ji29) then (if (ji29) < (x8_2.length : Int) then (if (rdOf false x8_2 (ji29) = true) then (spec_Bound.l1 k2 l1 x6_1 y179 x8_2 x9_1 (wrap64 (x10_2 + ((rd_T71 ((rd_T68 l1 x9_1).f2) x11_2).f1))) (wrap64 (x11_2 + 1)) a0_0 a0_1 a0_2) else (spec_Bound.l1 k2 l1 x6_1 (y179.set (((rd_T71 ((rd_T68 l1 x9_1).f2) x11_2).f0) : Int).toNat (wrap64 ((rd y179 ((rd_T71 ((rd_T68 l1 x9_1).f2) x11_2).f0)) + a0_1))) (x8_2.set ((ji29) : Int).toNat true) x9_1 (wrap64 (x10_2 + ((rd_T71 ((rd_T68 l1 x9_1).f2) x11_2).f1))) (wrap64 (x11_2 + 1)) a0_0 a0_1 a0_2)) else (none)) else (none)) = some (r1, r2) := by first | (rw [hji29] at H; exact H) | (simp only [hji29] at H ⊢; exact H)
                  have hji29w : (IntKind.i64.wrap ((wrap64 (10 * ((rd_T71 ((rd_T68 l1 x9_1).f2) x11_2).f0))) + ((rd_T71 ((rd_T68 l1 x9_1).f2) x11_2).f2))) = ji29 := (i64_w _).trans hji29
                  by_cases c30 : 0 ≤ (ji29)
                  ·rw [if_pos c30] at H
                   have c30b0 : decide (0 ≤ (ji29)) = true := decide_eq_true c30
                   clear c30
                   by_cases c31 : (ji29) < (x8_2.length : Int)
                   ·rw [if_pos c31] at H
                    have c31b0 : decide ((ji29) < (x8_2.length : Int)) = true := decide_eq_true c31
                    clear c31
                    obtain ⟨bq32, hbq32⟩ : ∃ b_ : Bool, b_ = (rdOf false x8_2 (ji29)) := ⟨_, rfl⟩
                    replace H : (if (bq32 = true) then (spec_Bound.l1 k2 l1 x6_1 y179 x8_2 x9_1 (wrap64 (x10_2 + ((rd_T71 ((rd_T68 l1 x9_1).f2) x11_2).f1))) (wrap64 (x11_2 + 1)) a0_0 a0_1 a0_2) else (spec_Bound.l1 k2 l1 x6_1 (y179.set (((rd_T71 ((rd_T68 l1 x9_1).f2) x11_2).f0) : Int).toNat (wrap64 ((rd y179 ((rd_T71 ((rd_T68 l1 x9_1).f2) x11_2).f0)) + a0_1))) (x8_2.set ((ji29) : Int).toNat true) x9_1 (wrap64 (x10_2 + ((rd_T71 ((rd_T68 l1 x9_1).f2) x11_2).f1))) (wrap64 (x11_2 + 1)) a0_0 a0_1 a0_2)) = some (r1, r2) := by rw [← hbq32] at H; exact H
                    have Nbq32 := Aside0.mk hbq32
                    clear hbq32
                    by_cases c33 : (bq32 = true)
                    ·subst c33
                     have H1 : (spec_Bound.l1 k2 l1 x6_1 y179 x8_2 x9_1 (wrap64 (x10_2 + ((rd_T71 ((rd_T68 l1 x9_1).f2) x11_2).f1))) (wrap64 (x11_2 + 1)) a0_0 a0_1 a0_2) = some (r1, r2) := by rw [if_pos rfl] at H; exact H
                     clear H
                     have H := H1
                     clear H1
                     have H' := Aside0.mk H
                     clear H
                     have p174 : 0 ≤ (x9_1 : Int) := of_decide_eq_true (by first | (with_reducible assumption) | assumption)
                     have q174 : x9_1 < (l1.length : Int) := of_decide_eq_true (by first | (with_reducible assumption) | assumption)
                     obtain ⟨ad174, A174_2, c174_2, e174, hx174_0, hx174_1, hx174_2, hl174_2, hi174_2⟩ := at_T68 HR1.out x9_1 p174 q174
                     cases e174
                     replace hx174_0 := (HB.out.cell (World.block_lt_of_cell? w _ hx174_0)).trans hx174_0
                     replace hx174_1 := (HB.out.cell (World.block_lt_of_cell? w _ hx174_1)).trans hx174_1
                     replace hx174_2 := (HB.out.cell (World.block_lt_of_cell? w _ hx174_2)).trans hx174_2
                     have HR174_2 := Aside0.mk hi174_2
                     have HC174_2 := Aside0.mk hl174_2
                     clear hi174_2 hl174_2
                     replace p174 := eq_true p174
                     replace q174 := eq_true q174
                     have p175 : 0 ≤ (x9_1 : Int) := of_decide_eq_true (by first | (with_reducible assumption) | assumption)
                     have q175 : x9_1 < (l1.length : Int) := of_decide_eq_true (by first | (with_reducible assumption) | assumption)
                     obtain ⟨ad175, A175_2, c175_2, e175, hx175_0, hx175_1, hx175_2, hl175_2, hi175_2⟩ := at_T68 HR1.out x9_1 p175 q175
                     obtain rfl : ad174 = ad175 := (by injection e175)
                     replace hx175_0 := (HB.out.cell (World.block_lt_of_cell? w _ hx175_0)).trans hx175_0
                     replace hx175_1 := (HB.out.cell (World.block_lt_of_cell? w _ hx175_1)).trans hx175_1
                     replace hx175_2 := (HB.out.cell (World.block_lt_of_cell? w _ hx175_2)).trans hx175_2
                     have HR175_2 := Aside0.mk hi175_2
                     have HC175_2 := Aside0.mk hl175_2
                     clear hi175_2 hl175_2
                     replace p175 := eq_true p175
                     replace q175 := eq_true q175
                     have ea_ := Option.some.inj (hx174_2.symm.trans hx175_2)
                     injection ea_ with ea_ en_ ec_
                     subst ea_
                     subst ec_
                     clear en_
                     have p176 : 0 ≤ (x11_2 : Int) := of_decide_eq_true (by first | (with_reducible assumption) | assumption)
                     have q176 : x11_2 < (((rd_T68 l1 x9_1).f2).length : Int) := of_decide_eq_true (by first | (with_reducible assumption) | assumption)
                     obtain ⟨ad176, e176, hx176_0, hx176_1, hx176_2, hx176_3⟩ := at_T71 HR175_2.out x11_2 p176 q176
                     cases e176
                     replace hx176_0 := (HB.out.cell (World.block_lt_of_cell? w _ hx176_0)).trans hx176_0
                     replace hx176_1 := (HB.out.cell (World.block_lt_of_cell? w _ hx176_1)).trans hx176_1
                     replace hx176_2 := (HB.out.cell (World.block_lt_of_cell? w _ hx176_2)).trans hx176_2
                     replace hx176_3 := (HB.out.cell (World.block_lt_of_cell? w _ hx176_3)).trans hx176_3
                     replace p176 := eq_true p176
                     replace q176 := eq_true q176
                     try go_wp2_with (first | ((with_reducible refine gate_dst (N := 12) rfl ?_); refine box_event ?hg (N := 12) ?hd (cs := #[.int .i64 0, .int .i64 0, .int .i64 0, .int .i64 0]) (t := 71) ?hr ?_; (case hd => rfl); (case hg => rfl); (case hr => first | (go_simp; done) | (go_simp; rfl)); intro gb177 hg w34 hbox hb; have n0_ := Aside0.mk (Kd.R_below (by (with_reducible repeat (first | apply Kd.R_alloc | apply Kd.R_drewN | apply Kd.R_drew)); exact HO_7.out) hb); have n1_ := Aside0.mk (Kd.R_below (by (with_reducible repeat (first | apply Kd.R_alloc | apply Kd.R_drewN | apply Kd.R_drew)); exact HO_8.out) hb); have n2_ := Aside0.mk (blk_below (g := gb166) (o := .cells #[.int .i64 a0_0, .int .i64 a0_1, .int .i64 a0_2] 38 (0, 0)) (by (with_reducible repeat (first | refine blk_drewN ?_ _ | refine blk_drew ?_ | refine blk_alloc ?_ _)); exact BK166.out) hb); have n3_ := Aside0.mk (below_step (by repeat (first | (with_reducible first | exact HB.out | apply below_alloc | apply pw_below_drewN | apply below_drew1 | refine below_set ?_ GE166.out) | exact HB.out)) hb); have n4_ := Aside0.mk (hbox); have n5_ := Aside0.mk ((by rw [hg]; exact (below_size (by repeat (first | (with_reducible first | exact HB.out | apply below_alloc | apply pw_below_drewN | apply below_drew1 | refine below_set ?_ GE166.out) | exact HB.out))) : w.heap.size ≤ gb177)); have n6_ := Aside0.mk ((by rw [hg]; exact (below_size (by repeat (first | (with_reducible first | exact HB.out | apply below_alloc | apply pw_below_drewN | apply below_drew1 | refine below_set ?_ GE166.out) | exact HB.out))) : w.heap.size ≤ gb177)); have n7_ := Aside0.mk ((by rw [hg]; exact Nat.ne_of_lt (blk_lt (g := gb166) (o := .cells #[.int .i64 a0_0, .int .i64 a0_1, .int .i64 a0_2] 38 (0, 0)) (by (with_reducible repeat (first | refine blk_drewN ?_ _ | refine blk_drew ?_ | refine blk_alloc ?_ _)); exact BK166.out)) : gb166 ≠ gb177)); have n8_ := Aside0.mk ((by rw [hg]; exact Nat.ne_of_gt (blk_lt (g := gb166) (o := .cells #[.int .i64 a0_0, .int .i64 a0_1, .int .i64 a0_2] 38 (0, 0)) (by (with_reducible repeat (first | refine blk_drewN ?_ _ | refine blk_drew ?_ | refine blk_alloc ?_ _)); exact BK166.out)) : gb177 ≠ gb166)); clear HO_7; clear HO_8; clear BK166; clear HB; have HO_7 := n0_; have HO_8 := n1_; have BK166 := n2_; have HB := n3_; have BK177 := n4_; have GW177 := n5_; have GE177 := n6_; have NB166_177 := n7_; have NB177_166 := n8_; clear n0_ n1_ n2_ n3_ n4_ n5_ n6_ n7_ n8_; clear hb hbox hg; have hnb35 := NB177_166.out; have hnc35 := NB166_177.out; have hcz36_0 : w34.cell? ⟨gb177, 0, none⟩ = some (.int .i64 0) := (blk_cell BK177.out 0).trans rfl; have hcz36_1 : w34.cell? ⟨gb177, 1, none⟩ = some (.int .i64 0) := (blk_cell BK177.out 1).trans rfl; have hcz36_2 : w34.cell? ⟨gb177, 2, none⟩ = some (.int .i64 0) := (blk_cell BK177.out 2).trans rfl; have hcz36_3 : w34.cell? ⟨gb177, 3, none⟩ = some (.int .i64 0) := (blk_cell BK177.out 3).trans rfl; have hfz36_0 := blk_frozen BK177.out 0; have hfz36_1 := blk_frozen BK177.out 1; have hfz36_2 := blk_frozen BK177.out 2; have hfz36_3 := blk_frozen BK177.out 3))
                     have n0_ : Aside0 (Kd.R (Kd.int .i64) 3 ((((w34.setCell ⟨gb177, 0, none⟩ (.int .i64 ((rd_T71 ((rd_T68 l1 x9_1).f2) x11_2).f0))).setCell ⟨gb177, 1, none⟩ (.int .i64 ((rd_T71 ((rd_T68 l1 x9_1).f2) x11_2).f1))).setCell ⟨gb177, 2, none⟩ (.int .i64 ((rd_T71 ((rd_T68 l1 x9_1).f2) x11_2).f2))).setCell ⟨gb177, 3, none⟩ (.int .i64 ((rd_T71 ((rd_T68 l1 x9_1).f2) x11_2).f3))) w.heap.size (fun _ => True) v169 x7_2) := ⟨by (with_reducible repeat (first | apply Kd.R_alloc | apply Kd.R_drewN | apply Kd.R_drew)); exact Kd.R_mono (Kd.R_far (p := ⟨gb177, 3, none⟩) (Kd.R_far (p := ⟨gb177, 2, none⟩) (Kd.R_far (p := ⟨gb177, 1, none⟩) (Kd.R_far (p := ⟨gb177, 0, none⟩) (Kd.R_types HO_7.out BK177.out (by decide)) (fun _ hk => hk.2) (.int .i64 ((rd_T71 ((rd_T68 l1 x9_1).f2) x11_2).f0))) (fun _ hk => hk.2) (.int .i64 ((rd_T71 ((rd_T68 l1 x9_1).f2) x11_2).f1))) (fun _ hk => hk.2) (.int .i64 ((rd_T71 ((rd_T68 l1 x9_1).f2) x11_2).f2))) (fun _ hk => hk.2) (.int .i64 ((rd_T71 ((rd_T68 l1 x9_1).f2) x11_2).f3))) (fun _ hk => trivial)⟩
                     have n1_ : Aside0 (Kd.R Kd.bool 4 ((((w34.setCell ⟨gb177, 0, none⟩ (.int .i64 ((rd_T71 ((rd_T68 l1 x9_1).f2) x11_2).f0))).setCell ⟨gb177, 1, none⟩ (.int .i64 ((rd_T71 ((rd_T68 l1 x9_1).f2) x11_2).f1))).setCell ⟨gb177, 2, none⟩ (.int .i64 ((rd_T71 ((rd_T68 l1 x9_1).f2) x11_2).f2))).setCell ⟨gb177, 3, none⟩ (.int .i64 ((rd_T71 ((rd_T68 l1 x9_1).f2) x11_2).f3))) w.heap.size (fun _ => True) v172 x8_2) := ⟨by (with_reducible repeat (first | apply Kd.R_alloc | apply Kd.R_drewN | apply Kd.R_drew)); exact Kd.R_mono (Kd.R_far (p := ⟨gb177, 3, none⟩) (Kd.R_far (p := ⟨gb177, 2, none⟩) (Kd.R_far (p := ⟨gb177, 1, none⟩) (Kd.R_far (p := ⟨gb177, 0, none⟩) (Kd.R_types HO_8.out BK177.out (by decide)) (fun _ hk => hk.2) (.int .i64 ((rd_T71 ((rd_T68 l1 x9_1).f2) x11_2).f0))) (fun _ hk => hk.2) (.int .i64 ((rd_T71 ((rd_T68 l1 x9_1).f2) x11_2).f1))) (fun _ hk => hk.2) (.int .i64 ((rd_T71 ((rd_T68 l1 x9_1).f2) x11_2).f2))) (fun _ hk => hk.2) (.int .i64 ((rd_T71 ((rd_T68 l1 x9_1).f2) x11_2).f3))) (fun _ hk => trivial)⟩
                     have n2_ : Aside0 (((((w34.setCell ⟨gb177, 0, none⟩ (.int .i64 ((rd_T71 ((rd_T68 l1 x9_1).f2) x11_2).f0))).setCell ⟨gb177, 1, none⟩ (.int .i64 ((rd_T71 ((rd_T68 l1 x9_1).f2) x11_2).f1))).setCell ⟨gb177, 2, none⟩ (.int .i64 ((rd_T71 ((rd_T68 l1 x9_1).f2) x11_2).f2))).setCell ⟨gb177, 3, none⟩ (.int .i64 ((rd_T71 ((rd_T68 l1 x9_1).f2) x11_2).f3))).heap[gb166]? = some (.cells #[.int .i64 a0_0, .int .i64 a0_1, .int .i64 a0_2] 38 (0, 0))) := ⟨by (with_reducible repeat (first | refine blk_drewN ?_ _ | refine blk_drew ?_ | refine blk_alloc ?_ _)); refine blk_far ?_ NB166_177.out _; (with_reducible repeat (first | refine blk_drewN ?_ _ | refine blk_drew ?_ | refine blk_alloc ?_ _)); refine blk_far ?_ NB166_177.out _; (with_reducible repeat (first | refine blk_drewN ?_ _ | refine blk_drew ?_ | refine blk_alloc ?_ _)); refine blk_far ?_ NB166_177.out _; (with_reducible repeat (first | refine blk_drewN ?_ _ | refine blk_drew ?_ | refine blk_alloc ?_ _)); refine blk_far ?_ NB166_177.out _; (with_reducible repeat (first | refine blk_drewN ?_ _ | refine blk_drew ?_ | refine blk_alloc ?_ _)); exact BK166.out⟩
                     have n3_ : Aside0 (((((w34.setCell ⟨gb177, 0, none⟩ (.int .i64 ((rd_T71 ((rd_T68 l1 x9_1).f2) x11_2).f0))).setCell ⟨gb177, 1, none⟩ (.int .i64 ((rd_T71 ((rd_T68 l1 x9_1).f2) x11_2).f1))).setCell ⟨gb177, 2, none⟩ (.int .i64 ((rd_T71 ((rd_T68 l1 x9_1).f2) x11_2).f2))).setCell ⟨gb177, 3, none⟩ (.int .i64 ((rd_T71 ((rd_T68 l1 x9_1).f2) x11_2).f3))).heap[gb177]? = some (.cells #[.int .i64 ((rd_T71 ((rd_T68 l1 x9_1).f2) x11_2).f0), .int .i64 ((rd_T71 ((rd_T68 l1 x9_1).f2) x11_2).f1), .int .i64 ((rd_T71 ((rd_T68 l1 x9_1).f2) x11_2).f2), .int .i64 ((rd_T71 ((rd_T68 l1 x9_1).f2) x11_2).f3)] 71 (0, 0))) := ⟨by (with_reducible repeat (first | refine blk_drewN ?_ _ | refine blk_drew ?_ | refine blk_alloc ?_ _)); refine blk_put (cs := #[.int .i64 ((rd_T71 ((rd_T68 l1 x9_1).f2) x11_2).f0), .int .i64 ((rd_T71 ((rd_T68 l1 x9_1).f2) x11_2).f1), .int .i64 ((rd_T71 ((rd_T68 l1 x9_1).f2) x11_2).f2), .int .i64 0]) ?_ 3 _ rfl; (with_reducible repeat (first | refine blk_drewN ?_ _ | refine blk_drew ?_ | refine blk_alloc ?_ _)); refine blk_put (cs := #[.int .i64 ((rd_T71 ((rd_T68 l1 x9_1).f2) x11_2).f0), .int .i64 ((rd_T71 ((rd_T68 l1 x9_1).f2) x11_2).f1), .int .i64 0, .int .i64 0]) ?_ 2 _ rfl; (with_reducible repeat (first | refine blk_drewN ?_ _ | refine blk_drew ?_ | refine blk_alloc ?_ _)); refine blk_put (cs := #[.int .i64 ((rd_T71 ((rd_T68 l1 x9_1).f2) x11_2).f0), .int .i64 0, .int .i64 0, .int .i64 0]) ?_ 1 _ rfl; (with_reducible repeat (first | refine blk_drewN ?_ _ | refine blk_drew ?_ | refine blk_alloc ?_ _)); refine blk_put (cs := #[.int .i64 0, .int .i64 0, .int .i64 0, .int .i64 0]) ?_ 0 _ rfl; (with_reducible repeat (first | refine blk_drewN ?_ _ | refine blk_drew ?_ | refine blk_alloc ?_ _)); exact BK177.out⟩
                     have n4_ : Aside0 (Below w.heap.size w ((((w34.setCell ⟨gb177, 0, none⟩ (.int .i64 ((rd_T71 ((rd_T68 l1 x9_1).f2) x11_2).f0))).setCell ⟨gb177, 1, none⟩ (.int .i64 ((rd_T71 ((rd_T68 l1 x9_1).f2) x11_2).f1))).setCell ⟨gb177, 2, none⟩ (.int .i64 ((rd_T71 ((rd_T68 l1 x9_1).f2) x11_2).f2))).setCell ⟨gb177, 3, none⟩ (.int .i64 ((rd_T71 ((rd_T68 l1 x9_1).f2) x11_2).f3)))) := ⟨by repeat (first | (with_reducible first | exact HB.out | apply below_alloc | apply pw_below_drewN | apply below_drew1 | refine below_set ?_ GE166.out | refine below_set ?_ GE177.out) | exact HB.out)⟩
                     (try clear HO_7)
                     (try clear HO_8)
                     (try clear BK166)
                     (try clear BK177)
                     (try clear HB)
                     generalize ((((w34.setCell ⟨gb177, 0, none⟩ (.int .i64 ((rd_T71 ((rd_T68 l1 x9_1).f2) x11_2).f0))).setCell ⟨gb177, 1, none⟩ (.int .i64 ((rd_T71 ((rd_T68 l1 x9_1).f2) x11_2).f1))).setCell ⟨gb177, 2, none⟩ (.int .i64 ((rd_T71 ((rd_T68 l1 x9_1).f2) x11_2).f2))).setCell ⟨gb177, 3, none⟩ (.int .i64 ((rd_T71 ((rd_T68 l1 x9_1).f2) x11_2).f3))) = w37 at n0_ n1_ n2_ n3_ n4_ ⊢
                     have HO_7 := n0_
                     have HO_8 := n1_
                     have BK166 := n2_
                     have BK177 := n3_
                     have HB := n4_
                     clear n0_ n1_ n2_ n3_ n4_
                     have n0_ := Aside0.mk (Kd.R_drew HO_7.out)
                     have n1_ := Aside0.mk (Kd.R_drew HO_8.out)
                     have n2_ := Aside0.mk (blk_drew BK166.out)
                     have n3_ := Aside0.mk (blk_drew BK177.out)
                     have n4_ := Aside0.mk (below_drew1 HB.out)
                     clear HO_7
                     clear HO_8
                     clear BK166
                     clear BK177
                     clear HB
                     have HO_7 := n0_
                     have HO_8 := n1_
                     have BK166 := n2_
                     have BK177 := n3_
                     have HB := n4_
                     clear n0_ n1_ n2_ n3_ n4_
                     obtain ⟨Ao39, co39, eo39⟩ := Kd.R_slice HO_7.out
                     (first | subst eo39 | (injection eo39 with f1_ f2_ f3_; have f4_ := f1_.symm; have f5_ := f3_.symm; clear f1_ f2_ f3_; subst f4_; subst f5_))
                     have p178 : 0 ≤ (((rd_T71 ((rd_T68 l1 x9_1).f2) x11_2).f0) : Int) := of_decide_eq_true (by first | (with_reducible assumption) | assumption)
                     have q178 : ((rd_T71 ((rd_T68 l1 x9_1).f2) x11_2).f0) < (x7_2.length : Int) := of_decide_eq_true (by first | (with_reducible assumption) | assumption)
                     obtain ⟨ad178, e178, hx178_0⟩ := Kd.at_int (Kd.R_reads' HO_7.out).2.2 ((rd_T71 ((rd_T68 l1 x9_1).f2) x11_2).f0) p178 q178
                     cases e178
                     replace p178 := eq_true p178
                     replace q178 := eq_true q178
                     have p28 : 0 ≤ (((rd_T71 ((rd_T68 l1 x9_1).f2) x11_2).f0) : Int) := of_decide_eq_true (by first | (with_reducible assumption) | assumption)
                     have q28 : (((rd_T71 ((rd_T68 l1 x9_1).f2) x11_2).f0) : Int) < ((x7_2.length : Int) : Int) := of_decide_eq_true (by first | (with_reducible assumption) | assumption)
                     obtain ⟨go28, co28, eo28, gb28, gl28, cl28, HG28⟩ := Kd.R_form HO_7.out (by omega)
                     (first | cases eo28 | (injection eo28 with ea_ en_ ec_; (first | subst ea_ | (injection ea_ with ea_; subst ea_)); subst ec_; clear en_))
                     have GB28 := Aside0.mk gb28
                     have GG28 := Aside0.mk HG28
                     clear gb28 gl28 HG28
                     (first | simp only [add_plain] at hx178_0 | skip)
                     obtain ⟨hx28_0, hf28_0⟩ := Kd.R_celln 0 HO_7.out (((rd_T71 ((rd_T68 l1 x9_1).f2) x11_2).f0) : Int) p28 q28
                     replace p28 := eq_true p28
                     replace q28 := eq_true q28
                     have HP40 := Kd.R_putn HO_7.out (((rd_T71 ((rd_T68 l1 x9_1).f2) x11_2).f0) : Int) (wrap64 ((rd x7_2 ((rd_T71 ((rd_T68 l1 x9_1).f2) x11_2).f0)) + ((rd_T71 ((rd_T68 l1 x9_1).f2) x11_2).f1)))
                     rw [← Ny179.out] at HP40
                     have HQ40 := Aside0.mk HP40
                     clear HP40
                     refine start_ (n := 10) (S := fun w' => w'.cell? ⟨gb177, 0, none⟩ = some (.int .i64 ((rd_T71 ((rd_T68 l1 x9_1).f2) x11_2).f0)) ∧ w'.cell? ⟨gb177, 1, none⟩ = some (.int .i64 ((rd_T71 ((rd_T68 l1 x9_1).f2) x11_2).f1)) ∧ w'.cell? ⟨gb177, 2, none⟩ = some (.int .i64 ((rd_T71 ((rd_T68 l1 x9_1).f2) x11_2).f2)) ∧ w'.cell? ⟨gb177, 3, none⟩ = some (.int .i64 ((rd_T71 ((rd_T68 l1 x9_1).f2) x11_2).f3)) ∧ w'.cell? ⟨go28, (((rd_T71 ((rd_T68 l1 x9_1).f2) x11_2).f0)).toNat, none⟩ = some (.int .i64 (rd x7_2 ((rd_T71 ((rd_T68 l1 x9_1).f2) x11_2).f0)))) (ds := [9]) #[false, false, false, false, false, false, false, false, false, false] (by kernel_rfl) rfl rfl ⟨(blk_cell BK177.out 0).trans rfl, (blk_cell BK177.out 1).trans rfl, (blk_cell BK177.out 2).trans rfl, (blk_cell BK177.out 3).trans rfl, hx178_0⟩ (fun hHeld => ?_); refine with_tabW spec_Bound.tab17 spec_Bound.bits17 (fun HT_ HW_ => ?_)
                     generalize w37.drew = w38 at HO_7 HO_8 BK166 BK177 HB GG28 HQ40 hf28_0 hx178_0 hx28_0 hHeld ⊢
                     refine pure_ (i := 0) (N := some 56) (v := ?_) (a' := ?_) #[true, false, false, false, false, false, false, false, false, false] rfl rfl (any_of HT_.out (by kernel_rfl)) (fun _ _ _ h => h) (Or.inl ⟨by rfl, ?_⟩) ?_ ?_
                     rotate_left
                     ·intro w'
                      go_simp
                      with_reducible rfl
                     rotate_left
                     ·simp only [Act.put, List.setIfInBounds_toArray, List.set_cons_zero, List.set_cons_succ, i64_w, i32_w]
                      rfl
                     refine pure_ (i := 1) (N := some 57) (v := ?_) (a' := ?_) #[true, true, false, false, false, false, false, false, false, false] rfl rfl (any_of HT_.out (by kernel_rfl)) (fun _ _ _ h => h) (Or.inl ⟨by rfl, ?_⟩) ?_ ?_
                     rotate_left
                     ·intro w'
                      go_simp
                      with_reducible rfl
                     rotate_left
                     ·simp only [Act.put, List.setIfInBounds_toArray, List.set_cons_zero, List.set_cons_succ, i64_w, i32_w]
                      rfl
                     refine pure_ (i := 5) (N := some 61) (v := ?_) (a' := ?_) #[true, true, false, false, false, true, false, false, false, false] rfl rfl (any_of HT_.out (by kernel_rfl)) (fun _ _ _ h => h) (Or.inl ⟨by rfl, ?_⟩) ?_ ?_
                     rotate_left
                     ·intro w'
                      go_simp
                      with_reducible rfl
                     rotate_left
                     ·simp only [Act.put, List.setIfInBounds_toArray, List.set_cons_zero, List.set_cons_succ, i64_w, i32_w]
                      rfl
                     refine take_ (i := 2) (N := some 58) (v := ?_) (a' := ?_) #[true, true, true, false, false, true, false, false, false, false] rfl rfl (take_ofW HT_.out HW_.out (by kernel_rfl)) (fun _ _ _ h => h) (Or.inl ⟨by rfl, ?_⟩) hHeld ?_ ?_
                     rotate_left
                     ·rintro w' ⟨s0, s1, s2, s3, s4⟩
                      go_simp
                      with_reducible rfl
                     rotate_left
                     ·simp only [Act.put, List.setIfInBounds_toArray, List.set_cons_zero, List.set_cons_succ, i64_w, i32_w]
                      rfl
                     refine pure_ (i := 3) (N := some 59) (v := ?_) (a' := ?_) #[true, true, true, true, false, true, false, false, false, false] rfl rfl (any_of HT_.out (by kernel_rfl)) (fun _ _ _ h => h) (Or.inl ⟨by rfl, ?_⟩) ?_ ?_
                     rotate_left
                     ·intro w'
                      go_simp
                      with_reducible rfl
                     rotate_left
                     ·simp only [Act.put, List.setIfInBounds_toArray, List.set_cons_zero, List.set_cons_succ, i64_w, i32_w]
                      rfl
                     refine take_ (i := 4) (N := some 60) (v := ?_) (a' := ?_) #[true, true, true, true, true, true, false, false, false, false] rfl rfl (take_ofW HT_.out HW_.out (by kernel_rfl)) (fun _ _ _ h => h) (Or.inl ⟨by rfl, ?_⟩) hHeld ?_ ?_
                     rotate_left
                     ·rintro w' ⟨s0, s1, s2, s3, s4⟩
                      go_simp
                      with_reducible rfl
                     rotate_left
                     ·simp only [Act.put, List.setIfInBounds_toArray, List.set_cons_zero, List.set_cons_succ, i64_w, i32_w]
                      rfl
                     refine take_ (i := 6) (N := some 62) (v := ?_) (a' := ?_) #[true, true, true, true, true, true, true, false, false, false] rfl rfl (take_ofW HT_.out HW_.out (by kernel_rfl)) (fun _ _ _ h => h) (Or.inl ⟨by rfl, ?_⟩) hHeld ?_ ?_
                     rotate_left
                     ·rintro w' ⟨s0, s1, s2, s3, s4⟩
                      go_simp
                      with_reducible rfl
                     rotate_left
                     ·simp only [Act.put, List.setIfInBounds_toArray, List.set_cons_zero, List.set_cons_succ, i64_w, i32_w]
                      rfl
                     refine pure_ (i := 7) (N := some 63) (v := ?_) (a' := ?_) #[true, true, true, true, true, true, true, true, false, false] rfl rfl (any_of HT_.out (by kernel_rfl)) (fun _ _ _ h => h) (Or.inl ⟨by rfl, ?_⟩) ?_ ?_
                     rotate_left
                     ·intro w'
                      go_simp
                      with_reducible rfl
                     rotate_left
                     ·simp only [Act.put, List.setIfInBounds_toArray, List.set_cons_zero, List.set_cons_succ, i64_w, i32_w]
                      rfl
                     refine pure_ (i := 8) (N := some 64) (v := ?_) (a' := ?_) #[true, true, true, true, true, true, true, true, true, false] rfl rfl (any_of HT_.out (by kernel_rfl)) (fun _ _ _ h => h) (Or.inl ⟨by rfl, ?_⟩) ?_ ?_
                     rotate_left
                     ·intro w'
                      go_simp
                      with_reducible rfl
                     rotate_left
                     ·simp only [Act.put, List.setIfInBounds_toArray, List.set_cons_zero, List.set_cons_succ, i64_w, i32_w]
                      rfl
                     refine last_ (i := 9) (N := none) #[true, true, true, true, true, true, true, true, true, true] rfl rfl (one_of HT_.out (by kernel_rfl)) (by decide) (fun K hK => ?_)
                     refine skip_ (w1 := ?_) (by rfl) rfl ?_ ?_
                     rotate_left
                     ·go_simp
                      rfl
                     refine hK.out _ _ ?_
                     clear hK K
                     refine done_ (done_of HT_.out (by kernel_rfl)) ?_
                     have hcz41_0 : w38.cell? ⟨gb177, 0, none⟩ = some (.int .i64 ((rd_T71 ((rd_T68 l1 x9_1).f2) x11_2).f0)) := (blk_cell BK177.out 0).trans rfl
                     have hcz41_1 : w38.cell? ⟨gb177, 1, none⟩ = some (.int .i64 ((rd_T71 ((rd_T68 l1 x9_1).f2) x11_2).f1)) := (blk_cell BK177.out 1).trans rfl
                     have hcz41_2 : w38.cell? ⟨gb177, 2, none⟩ = some (.int .i64 ((rd_T71 ((rd_T68 l1 x9_1).f2) x11_2).f2)) := (blk_cell BK177.out 2).trans rfl
                     have hcz41_3 : w38.cell? ⟨gb177, 3, none⟩ = some (.int .i64 ((rd_T71 ((rd_T68 l1 x9_1).f2) x11_2).f3)) := (blk_cell BK177.out 3).trans rfl
                     have hfz41_0 := blk_frozen BK177.out 0
                     have hfz41_1 := blk_frozen BK177.out 1
                     have hfz41_2 := blk_frozen BK177.out 2
                     have hfz41_3 := blk_frozen BK177.out 3
                     obtain ⟨Ao42, co42, eo42⟩ := Kd.R_slice HO_8.out
                     subst eo42
                     have p180 : 0 ≤ ((ji29) : Int) := of_decide_eq_true (by first | (with_reducible assumption) | assumption)
                     have q180 : (ji29) < (x8_2.length : Int) := of_decide_eq_true (by first | (with_reducible assumption) | assumption)
                     obtain ⟨ad180, e180, hx180_0⟩ := Kd.at_bool (Kd.R_reads' HO_8.out).2.2 (ji29) p180 q180
                     (try rw [← Nbq32.out] at hx180_0)
                     cases e180
                     have hn180_0 : ad180.block ≠ go28 := Kd.own_blk (Kd.R_ne HO_8.out GG28.out (by decide))
                     (try (have hzr166_ := blk_ne GG28.out BK166.out (by decide); have hzs166_ := hzr166_.symm))
                     (try (have hzr177_ := blk_ne GG28.out BK177.out (by decide); have hzs177_ := hzr177_.symm))
                     replace hx180_0 := (cell_far (p := ⟨go28, (((rd_T71 ((rd_T68 l1 x9_1).f2) x11_2).f0) : Int).toNat, none⟩) (by first | (rw [add_block]; exact hn180_0) | (show (Addr.add _ _).block ≠ _; rw [add_block]; exact hn180_0) | exact hn180_0) (.int .i64 (wrap64 ((rd x7_2 ((rd_T71 ((rd_T68 l1 x9_1).f2) x11_2).f0)) + ((rd_T71 ((rd_T68 l1 x9_1).f2) x11_2).f1))))).trans hx180_0
                     clear hn180_0
                     replace p180 := eq_true p180
                     replace q180 := eq_true q180
                     try go_wp2
                     go_roundg k2
                     case measure => have := HK1.out; have := HK2.out; omega
                     case rel => exact ⟨(y179), (x8_2), (wrap64 (x10_2 + ((rd_T71 ((rd_T68 l1 x9_1).f2) x11_2).f1))), (wrap64 (x11_2 + 1)), (by first | rfl | (simp; done) | (simp [*]; done)), (by first | rfl | (simp; done) | (simp [*]; done)), H', ⟨by have := HK1.out; have := HK2.out; omega⟩, ⟨by (with_reducible repeat (first | apply Kd.R_alloc | apply Kd.R_drewN | apply Kd.R_drew)); exact HQ40.out⟩, ⟨by (with_reducible repeat (first | apply Kd.R_alloc | apply Kd.R_drewN | apply Kd.R_drew)); exact Kd.R_mono (Kd.R_far (p := ⟨go28, (((rd_T71 ((rd_T68 l1 x9_1).f2) x11_2).f0) : Int).toNat, none⟩) (Kd.R_types HO_8.out GG28.out (by decide)) (fun _ hk => hk.2) (.int .i64 (wrap64 ((rd x7_2 ((rd_T71 ((rd_T68 l1 x9_1).f2) x11_2).f0)) + ((rd_T71 ((rd_T68 l1 x9_1).f2) x11_2).f1))))) (fun _ hk => trivial)⟩, ⟨by (with_reducible repeat (first | refine blk_drewN ?_ _ | refine blk_drew ?_ | refine blk_alloc ?_ _)); refine blk_far ?_ (by have h_ := Kd.R_ne HO_7.out BK166.out (by decide); intro e_; exact h_ (by rw [e_]; rfl)) _; (with_reducible repeat (first | refine blk_drewN ?_ _ | refine blk_drew ?_ | refine blk_alloc ?_ _)); exact BK166.out⟩, ⟨by repeat (first | (with_reducible first | exact HB.out | apply below_alloc | apply pw_below_drewN | apply below_drew1 | refine below_set ?_ GB28.out | refine below_set ?_ GE166.out | refine below_set ?_ GE177.out) | exact HB.out)⟩⟩
                    ·replace c33 := Bool.eq_false_iff.mpr c33
                     subst c33
                     have H1 : (spec_Bound.l1 k2 l1 x6_1 (y179.set (((rd_T71 ((rd_T68 l1 x9_1).f2) x11_2).f0) : Int).toNat (wrap64 ((rd y179 ((rd_T71 ((rd_T68 l1 x9_1).f2) x11_2).f0)) + a0_1))) (x8_2.set ((ji29) : Int).toNat true) x9_1 (wrap64 (x10_2 + ((rd_T71 ((rd_T68 l1 x9_1).f2) x11_2).f1))) (wrap64 (x11_2 + 1)) a0_0 a0_1 a0_2) = some (r1, r2) := by rw [if_neg (show ¬ (false = true) by decide)] at H; exact H
                     clear H
                     have H := H1
                     clear H1
                     obtain ⟨y181, hy181⟩ : ∃ y_ : List Bool, y_ = (x8_2.set ((ji29) : Int).toNat true) := ⟨_, rfl⟩
                     replace H : (spec_Bound.l1 k2 l1 x6_1 (y179.set (((rd_T71 ((rd_T68 l1 x9_1).f2) x11_2).f0) : Int).toNat (wrap64 ((rd y179 ((rd_T71 ((rd_T68 l1 x9_1).f2) x11_2).f0)) + a0_1))) y181 x9_1 (wrap64 (x10_2 + ((rd_T71 ((rd_T68 l1 x9_1).f2) x11_2).f1))) (wrap64 (x11_2 + 1)) a0_0 a0_1 a0_2) = some (r1, r2) := by first | (rw [hy181]; with_reducible exact H) | (have H2_ := (Option.bind_some _ _).symm.trans H; rw [hy181]; with_reducible exact H2_) | (have H2_ := (Option.bind_some _ _).symm.trans H; with_reducible exact H2_) | with_reducible exact H | (rw [hy181]; exact H) | exact H
                     have Ny181 := Aside0.mk hy181
                     clear hy181
                     obtain ⟨y183, hy183⟩ : ∃ y_ : List Int, y_ = (y179.set (((rd_T71 ((rd_T68 l1 x9_1).f2) x11_2).f0) : Int).toNat (wrap64 ((rd y179 ((rd_T71 ((rd_T68 l1 x9_1).f2) x11_2).f0)) + a0_1))) := ⟨_, rfl⟩
                     replace H : (spec_Bound.l1 k2 l1 x6_1 y183 y181 x9_1 (wrap64 (x10_2 + ((rd_T71 ((rd_T68 l1 x9_1).f2) x11_2).f1))) (wrap64 (x11_2 + 1)) a0_0 a0_1 a0_2) = some (r1, r2) := by first | (rw [hy183]; with_reducible exact H) | (have H2_ := (Option.bind_some _ _).symm.trans H; rw [hy183]; with_reducible exact H2_) | (have H2_ := (Option.bind_some _ _).symm.trans H; with_reducible exact H2_) | with_reducible exact H | (rw [hy183]; exact H) | exact H
                     have Ny183 := Aside0.mk hy183
                     clear hy183
                     have H' := Aside0.mk H
                     clear H
                     have p174 : 0 ≤ (x9_1 : Int) := of_decide_eq_true (by first | (with_reducible assumption) | assumption)
                     have q174 : x9_1 < (l1.length : Int) := of_decide_eq_true (by first | (with_reducible assumption) | assumption)
                     obtain ⟨ad174, A174_2, c174_2, e174, hx174_0, hx174_1, hx174_2, hl174_2, hi174_2⟩ := at_T68 HR1.out x9_1 p174 q174
                     cases e174
                     replace hx174_0 := (HB.out.cell (World.block_lt_of_cell? w _ hx174_0)).trans hx174_0
                     replace hx174_1 := (HB.out.cell (World.block_lt_of_cell? w _ hx174_1)).trans hx174_1
                     replace hx174_2 := (HB.out.cell (World.block_lt_of_cell? w _ hx174_2)).trans hx174_2
                     have HR174_2 := Aside0.mk hi174_2
                     have HC174_2 := Aside0.mk hl174_2
                     clear hi174_2 hl174_2
                     replace p174 := eq_true p174
                     replace q174 := eq_true q174
                     have p175 : 0 ≤ (x9_1 : Int) := of_decide_eq_true (by first | (with_reducible assumption) | assumption)
                     have q175 : x9_1 < (l1.length : Int) := of_decide_eq_true (by first | (with_reducible assumption) | assumption)
                     obtain ⟨ad175, A175_2, c175_2, e175, hx175_0, hx175_1, hx175_2, hl175_2, hi175_2⟩ := at_T68 HR1.out x9_1 p175 q175
                     obtain rfl : ad174 = ad175 := (by injection e175)
                     replace hx175_0 := (HB.out.cell (World.block_lt_of_cell? w _ hx175_0)).trans hx175_0
                     replace hx175_1 := (HB.out.cell (World.block_lt_of_cell? w _ hx175_1)).trans hx175_1
                     replace hx175_2 := (HB.out.cell (World.block_lt_of_cell? w _ hx175_2)).trans hx175_2
                     have HR175_2 := Aside0.mk hi175_2
                     have HC175_2 := Aside0.mk hl175_2
                     clear hi175_2 hl175_2
                     replace p175 := eq_true p175
                     replace q175 := eq_true q175
                     have ea_ := Option.some.inj (hx174_2.symm.trans hx175_2)
                     injection ea_ with ea_ en_ ec_
                     subst ea_
                     subst ec_
                     clear en_
                     have p176 : 0 ≤ (x11_2 : Int) := of_decide_eq_true (by first | (with_reducible assumption) | assumption)
                     have q176 : x11_2 < (((rd_T68 l1 x9_1).f2).length : Int) := of_decide_eq_true (by first | (with_reducible assumption) | assumption)
                     obtain ⟨ad176, e176, hx176_0, hx176_1, hx176_2, hx176_3⟩ := at_T71 HR175_2.out x11_2 p176 q176
                     cases e176
                     replace hx176_0 := (HB.out.cell (World.block_lt_of_cell? w _ hx176_0)).trans hx176_0
                     replace hx176_1 := (HB.out.cell (World.block_lt_of_cell? w _ hx176_1)).trans hx176_1
                     replace hx176_2 := (HB.out.cell (World.block_lt_of_cell? w _ hx176_2)).trans hx176_2
                     replace hx176_3 := (HB.out.cell (World.block_lt_of_cell? w _ hx176_3)).trans hx176_3
                     replace p176 := eq_true p176
                     replace q176 := eq_true q176
                     try go_wp2_with (first | ((with_reducible refine gate_dst (N := 12) rfl ?_); refine box_event ?hg (N := 12) ?hd (cs := #[.int .i64 0, .int .i64 0, .int .i64 0, .int .i64 0]) (t := 71) ?hr ?_; (case hd => rfl); (case hg => rfl); (case hr => first | (go_simp; done) | (go_simp; rfl)); intro gb177 hg w45 hbox hb; have n0_ := Aside0.mk (Kd.R_below (by (with_reducible repeat (first | apply Kd.R_alloc | apply Kd.R_drewN | apply Kd.R_drew)); exact HO_7.out) hb); have n1_ := Aside0.mk (Kd.R_below (by (with_reducible repeat (first | apply Kd.R_alloc | apply Kd.R_drewN | apply Kd.R_drew)); exact HO_8.out) hb); have n2_ := Aside0.mk (blk_below (g := gb166) (o := .cells #[.int .i64 a0_0, .int .i64 a0_1, .int .i64 a0_2] 38 (0, 0)) (by (with_reducible repeat (first | refine blk_drewN ?_ _ | refine blk_drew ?_ | refine blk_alloc ?_ _)); exact BK166.out) hb); have n3_ := Aside0.mk (below_step (by repeat (first | (with_reducible first | exact HB.out | apply below_alloc | apply pw_below_drewN | apply below_drew1 | refine below_set ?_ GE166.out) | exact HB.out)) hb); have n4_ := Aside0.mk (hbox); have n5_ := Aside0.mk ((by rw [hg]; exact (below_size (by repeat (first | (with_reducible first | exact HB.out | apply below_alloc | apply pw_below_drewN | apply below_drew1 | refine below_set ?_ GE166.out) | exact HB.out))) : w.heap.size ≤ gb177)); have n6_ := Aside0.mk ((by rw [hg]; exact (below_size (by repeat (first | (with_reducible first | exact HB.out | apply below_alloc | apply pw_below_drewN | apply below_drew1 | refine below_set ?_ GE166.out) | exact HB.out))) : w.heap.size ≤ gb177)); have n7_ := Aside0.mk ((by rw [hg]; exact Nat.ne_of_lt (blk_lt (g := gb166) (o := .cells #[.int .i64 a0_0, .int .i64 a0_1, .int .i64 a0_2] 38 (0, 0)) (by (with_reducible repeat (first | refine blk_drewN ?_ _ | refine blk_drew ?_ | refine blk_alloc ?_ _)); exact BK166.out)) : gb166 ≠ gb177)); have n8_ := Aside0.mk ((by rw [hg]; exact Nat.ne_of_gt (blk_lt (g := gb166) (o := .cells #[.int .i64 a0_0, .int .i64 a0_1, .int .i64 a0_2] 38 (0, 0)) (by (with_reducible repeat (first | refine blk_drewN ?_ _ | refine blk_drew ?_ | refine blk_alloc ?_ _)); exact BK166.out)) : gb177 ≠ gb166)); clear HO_7; clear HO_8; clear BK166; clear HB; have HO_7 := n0_; have HO_8 := n1_; have BK166 := n2_; have HB := n3_; have BK177 := n4_; have GW177 := n5_; have GE177 := n6_; have NB166_177 := n7_; have NB177_166 := n8_; clear n0_ n1_ n2_ n3_ n4_ n5_ n6_ n7_ n8_; clear hb hbox hg; have hnb46 := NB177_166.out; have hnc46 := NB166_177.out; have hcz47_0 : w45.cell? ⟨gb177, 0, none⟩ = some (.int .i64 0) := (blk_cell BK177.out 0).trans rfl; have hcz47_1 : w45.cell? ⟨gb177, 1, none⟩ = some (.int .i64 0) := (blk_cell BK177.out 1).trans rfl; have hcz47_2 : w45.cell? ⟨gb177, 2, none⟩ = some (.int .i64 0) := (blk_cell BK177.out 2).trans rfl; have hcz47_3 : w45.cell? ⟨gb177, 3, none⟩ = some (.int .i64 0) := (blk_cell BK177.out 3).trans rfl; have hfz47_0 := blk_frozen BK177.out 0; have hfz47_1 := blk_frozen BK177.out 1; have hfz47_2 := blk_frozen BK177.out 2; have hfz47_3 := blk_frozen BK177.out 3))
                     have n0_ : Aside0 (Kd.R (Kd.int .i64) 3 ((((w45.setCell ⟨gb177, 0, none⟩ (.int .i64 ((rd_T71 ((rd_T68 l1 x9_1).f2) x11_2).f0))).setCell ⟨gb177, 1, none⟩ (.int .i64 ((rd_T71 ((rd_T68 l1 x9_1).f2) x11_2).f1))).setCell ⟨gb177, 2, none⟩ (.int .i64 ((rd_T71 ((rd_T68 l1 x9_1).f2) x11_2).f2))).setCell ⟨gb177, 3, none⟩ (.int .i64 ((rd_T71 ((rd_T68 l1 x9_1).f2) x11_2).f3))) w.heap.size (fun _ => True) v169 x7_2) := ⟨by (with_reducible repeat (first | apply Kd.R_alloc | apply Kd.R_drewN | apply Kd.R_drew)); exact Kd.R_mono (Kd.R_far (p := ⟨gb177, 3, none⟩) (Kd.R_far (p := ⟨gb177, 2, none⟩) (Kd.R_far (p := ⟨gb177, 1, none⟩) (Kd.R_far (p := ⟨gb177, 0, none⟩) (Kd.R_types HO_7.out BK177.out (by decide)) (fun _ hk => hk.2) (.int .i64 ((rd_T71 ((rd_T68 l1 x9_1).f2) x11_2).f0))) (fun _ hk => hk.2) (.int .i64 ((rd_T71 ((rd_T68 l1 x9_1).f2) x11_2).f1))) (fun _ hk => hk.2) (.int .i64 ((rd_T71 ((rd_T68 l1 x9_1).f2) x11_2).f2))) (fun _ hk => hk.2) (.int .i64 ((rd_T71 ((rd_T68 l1 x9_1).f2) x11_2).f3))) (fun _ hk => trivial)⟩
                     have n1_ : Aside0 (Kd.R Kd.bool 4 ((((w45.setCell ⟨gb177, 0, none⟩ (.int .i64 ((rd_T71 ((rd_T68 l1 x9_1).f2) x11_2).f0))).setCell ⟨gb177, 1, none⟩ (.int .i64 ((rd_T71 ((rd_T68 l1 x9_1).f2) x11_2).f1))).setCell ⟨gb177, 2, none⟩ (.int .i64 ((rd_T71 ((rd_T68 l1 x9_1).f2) x11_2).f2))).setCell ⟨gb177, 3, none⟩ (.int .i64 ((rd_T71 ((rd_T68 l1 x9_1).f2) x11_2).f3))) w.heap.size (fun _ => True) v172 x8_2) := ⟨by (with_reducible repeat (first | apply Kd.R_alloc | apply Kd.R_drewN | apply Kd.R_drew)); exact Kd.R_mono (Kd.R_far (p := ⟨gb177, 3, none⟩) (Kd.R_far (p := ⟨gb177, 2, none⟩) (Kd.R_far (p := ⟨gb177, 1, none⟩) (Kd.R_far (p := ⟨gb177, 0, none⟩) (Kd.R_types HO_8.out BK177.out (by decide)) (fun _ hk => hk.2) (.int .i64 ((rd_T71 ((rd_T68 l1 x9_1).f2) x11_2).f0))) (fun _ hk => hk.2) (.int .i64 ((rd_T71 ((rd_T68 l1 x9_1).f2) x11_2).f1))) (fun _ hk => hk.2) (.int .i64 ((rd_T71 ((rd_T68 l1 x9_1).f2) x11_2).f2))) (fun _ hk => hk.2) (.int .i64 ((rd_T71 ((rd_T68 l1 x9_1).f2) x11_2).f3))) (fun _ hk => trivial)⟩
                     have n2_ : Aside0 (((((w45.setCell ⟨gb177, 0, none⟩ (.int .i64 ((rd_T71 ((rd_T68 l1 x9_1).f2) x11_2).f0))).setCell ⟨gb177, 1, none⟩ (.int .i64 ((rd_T71 ((rd_T68 l1 x9_1).f2) x11_2).f1))).setCell ⟨gb177, 2, none⟩ (.int .i64 ((rd_T71 ((rd_T68 l1 x9_1).f2) x11_2).f2))).setCell ⟨gb177, 3, none⟩ (.int .i64 ((rd_T71 ((rd_T68 l1 x9_1).f2) x11_2).f3))).heap[gb166]? = some (.cells #[.int .i64 a0_0, .int .i64 a0_1, .int .i64 a0_2] 38 (0, 0))) := ⟨by (with_reducible repeat (first | refine blk_drewN ?_ _ | refine blk_drew ?_ | refine blk_alloc ?_ _)); refine blk_far ?_ NB166_177.out _; (with_reducible repeat (first | refine blk_drewN ?_ _ | refine blk_drew ?_ | refine blk_alloc ?_ _)); refine blk_far ?_ NB166_177.out _; (with_reducible repeat (first | refine blk_drewN ?_ _ | refine blk_drew ?_ | refine blk_alloc ?_ _)); refine blk_far ?_ NB166_177.out _; (with_reducible repeat (first | refine blk_drewN ?_ _ | refine blk_drew ?_ | refine blk_alloc ?_ _)); refine blk_far ?_ NB166_177.out _; (with_reducible repeat (first | refine blk_drewN ?_ _ | refine blk_drew ?_ | refine blk_alloc ?_ _)); exact BK166.out⟩
                     have n3_ : Aside0 (((((w45.setCell ⟨gb177, 0, none⟩ (.int .i64 ((rd_T71 ((rd_T68 l1 x9_1).f2) x11_2).f0))).setCell ⟨gb177, 1, none⟩ (.int .i64 ((rd_T71 ((rd_T68 l1 x9_1).f2) x11_2).f1))).setCell ⟨gb177, 2, none⟩ (.int .i64 ((rd_T71 ((rd_T68 l1 x9_1).f2) x11_2).f2))).setCell ⟨gb177, 3, none⟩ (.int .i64 ((rd_T71 ((rd_T68 l1 x9_1).f2) x11_2).f3))).heap[gb177]? = some (.cells #[.int .i64 ((rd_T71 ((rd_T68 l1 x9_1).f2) x11_2).f0), .int .i64 ((rd_T71 ((rd_T68 l1 x9_1).f2) x11_2).f1), .int .i64 ((rd_T71 ((rd_T68 l1 x9_1).f2) x11_2).f2), .int .i64 ((rd_T71 ((rd_T68 l1 x9_1).f2) x11_2).f3)] 71 (0, 0))) := ⟨by (with_reducible repeat (first | refine blk_drewN ?_ _ | refine blk_drew ?_ | refine blk_alloc ?_ _)); refine blk_put (cs := #[.int .i64 ((rd_T71 ((rd_T68 l1 x9_1).f2) x11_2).f0), .int .i64 ((rd_T71 ((rd_T68 l1 x9_1).f2) x11_2).f1), .int .i64 ((rd_T71 ((rd_T68 l1 x9_1).f2) x11_2).f2), .int .i64 0]) ?_ 3 _ rfl; (with_reducible repeat (first | refine blk_drewN ?_ _ | refine blk_drew ?_ | refine blk_alloc ?_ _)); refine blk_put (cs := #[.int .i64 ((rd_T71 ((rd_T68 l1 x9_1).f2) x11_2).f0), .int .i64 ((rd_T71 ((rd_T68 l1 x9_1).f2) x11_2).f1), .int .i64 0, .int .i64 0]) ?_ 2 _ rfl; (with_reducible repeat (first | refine blk_drewN ?_ _ | refine blk_drew ?_ | refine blk_alloc ?_ _)); refine blk_put (cs := #[.int .i64 ((rd_T71 ((rd_T68 l1 x9_1).f2) x11_2).f0), .int .i64 0, .int .i64 0, .int .i64 0]) ?_ 1 _ rfl; (with_reducible repeat (first | refine blk_drewN ?_ _ | refine blk_drew ?_ | refine blk_alloc ?_ _)); refine blk_put (cs := #[.int .i64 0, .int .i64 0, .int .i64 0, .int .i64 0]) ?_ 0 _ rfl; (with_reducible repeat (first | refine blk_drewN ?_ _ | refine blk_drew ?_ | refine blk_alloc ?_ _)); exact BK177.out⟩
                     have n4_ : Aside0 (Below w.heap.size w ((((w45.setCell ⟨gb177, 0, none⟩ (.int .i64 ((rd_T71 ((rd_T68 l1 x9_1).f2) x11_2).f0))).setCell ⟨gb177, 1, none⟩ (.int .i64 ((rd_T71 ((rd_T68 l1 x9_1).f2) x11_2).f1))).setCell ⟨gb177, 2, none⟩ (.int .i64 ((rd_T71 ((rd_T68 l1 x9_1).f2) x11_2).f2))).setCell ⟨gb177, 3, none⟩ (.int .i64 ((rd_T71 ((rd_T68 l1 x9_1).f2) x11_2).f3)))) := ⟨by repeat (first | (with_reducible first | exact HB.out | apply below_alloc | apply pw_below_drewN | apply below_drew1 | refine below_set ?_ GE166.out | refine below_set ?_ GE177.out) | exact HB.out)⟩
                     (try clear HO_7)
                     (try clear HO_8)
                     (try clear BK166)
                     (try clear BK177)
                     (try clear HB)
                     generalize ((((w45.setCell ⟨gb177, 0, none⟩ (.int .i64 ((rd_T71 ((rd_T68 l1 x9_1).f2) x11_2).f0))).setCell ⟨gb177, 1, none⟩ (.int .i64 ((rd_T71 ((rd_T68 l1 x9_1).f2) x11_2).f1))).setCell ⟨gb177, 2, none⟩ (.int .i64 ((rd_T71 ((rd_T68 l1 x9_1).f2) x11_2).f2))).setCell ⟨gb177, 3, none⟩ (.int .i64 ((rd_T71 ((rd_T68 l1 x9_1).f2) x11_2).f3))) = w48 at n0_ n1_ n2_ n3_ n4_ ⊢
                     have HO_7 := n0_
                     have HO_8 := n1_
                     have BK166 := n2_
                     have BK177 := n3_
                     have HB := n4_
                     clear n0_ n1_ n2_ n3_ n4_
                     have n0_ := Aside0.mk (Kd.R_drew HO_7.out)
                     have n1_ := Aside0.mk (Kd.R_drew HO_8.out)
                     have n2_ := Aside0.mk (blk_drew BK166.out)
                     have n3_ := Aside0.mk (blk_drew BK177.out)
                     have n4_ := Aside0.mk (below_drew1 HB.out)
                     clear HO_7
                     clear HO_8
                     clear BK166
                     clear BK177
                     clear HB
                     have HO_7 := n0_
                     have HO_8 := n1_
                     have BK166 := n2_
                     have BK177 := n3_
                     have HB := n4_
                     clear n0_ n1_ n2_ n3_ n4_
                     obtain ⟨Ao50, co50, eo50⟩ := Kd.R_slice HO_7.out
                     (first | subst eo50 | (injection eo50 with f1_ f2_ f3_; have f4_ := f1_.symm; have f5_ := f3_.symm; clear f1_ f2_ f3_; subst f4_; subst f5_))
                     have p178 : 0 ≤ (((rd_T71 ((rd_T68 l1 x9_1).f2) x11_2).f0) : Int) := of_decide_eq_true (by first | (with_reducible assumption) | assumption)
                     have q178 : ((rd_T71 ((rd_T68 l1 x9_1).f2) x11_2).f0) < (x7_2.length : Int) := of_decide_eq_true (by first | (with_reducible assumption) | assumption)
                     obtain ⟨ad178, e178, hx178_0⟩ := Kd.at_int (Kd.R_reads' HO_7.out).2.2 ((rd_T71 ((rd_T68 l1 x9_1).f2) x11_2).f0) p178 q178
                     cases e178
                     replace p178 := eq_true p178
                     replace q178 := eq_true q178
                     have p28 : 0 ≤ (((rd_T71 ((rd_T68 l1 x9_1).f2) x11_2).f0) : Int) := of_decide_eq_true (by first | (with_reducible assumption) | assumption)
                     have q28 : (((rd_T71 ((rd_T68 l1 x9_1).f2) x11_2).f0) : Int) < ((x7_2.length : Int) : Int) := of_decide_eq_true (by first | (with_reducible assumption) | assumption)
                     obtain ⟨go28, co28, eo28, gb28, gl28, cl28, HG28⟩ := Kd.R_form HO_7.out (by omega)
                     (first | cases eo28 | (injection eo28 with ea_ en_ ec_; (first | subst ea_ | (injection ea_ with ea_; subst ea_)); subst ec_; clear en_))
                     have GB28 := Aside0.mk gb28
                     have GG28 := Aside0.mk HG28
                     clear gb28 gl28 HG28
                     (first | simp only [add_plain] at hx178_0 | skip)
                     obtain ⟨hx28_0, hf28_0⟩ := Kd.R_celln 0 HO_7.out (((rd_T71 ((rd_T68 l1 x9_1).f2) x11_2).f0) : Int) p28 q28
                     replace p28 := eq_true p28
                     replace q28 := eq_true q28
                     have HP51 := Kd.R_putn HO_7.out (((rd_T71 ((rd_T68 l1 x9_1).f2) x11_2).f0) : Int) (wrap64 ((rd x7_2 ((rd_T71 ((rd_T68 l1 x9_1).f2) x11_2).f0)) + ((rd_T71 ((rd_T68 l1 x9_1).f2) x11_2).f1)))
                     rw [← Ny179.out] at HP51
                     have HQ51 := Aside0.mk HP51
                     clear HP51
                     refine start_ (n := 10) (S := fun w' => w'.cell? ⟨gb177, 0, none⟩ = some (.int .i64 ((rd_T71 ((rd_T68 l1 x9_1).f2) x11_2).f0)) ∧ w'.cell? ⟨gb177, 1, none⟩ = some (.int .i64 ((rd_T71 ((rd_T68 l1 x9_1).f2) x11_2).f1)) ∧ w'.cell? ⟨gb177, 2, none⟩ = some (.int .i64 ((rd_T71 ((rd_T68 l1 x9_1).f2) x11_2).f2)) ∧ w'.cell? ⟨gb177, 3, none⟩ = some (.int .i64 ((rd_T71 ((rd_T68 l1 x9_1).f2) x11_2).f3)) ∧ w'.cell? ⟨go28, (((rd_T71 ((rd_T68 l1 x9_1).f2) x11_2).f0)).toNat, none⟩ = some (.int .i64 (rd x7_2 ((rd_T71 ((rd_T68 l1 x9_1).f2) x11_2).f0)))) (ds := [9]) #[false, false, false, false, false, false, false, false, false, false] (by kernel_rfl) rfl rfl ⟨(blk_cell BK177.out 0).trans rfl, (blk_cell BK177.out 1).trans rfl, (blk_cell BK177.out 2).trans rfl, (blk_cell BK177.out 3).trans rfl, hx178_0⟩ (fun hHeld => ?_); refine with_tabW spec_Bound.tab17 spec_Bound.bits17 (fun HT_ HW_ => ?_)
                     generalize w48.drew = w49 at HO_7 HO_8 BK166 BK177 HB GG28 HQ51 hf28_0 hx178_0 hx28_0 hHeld ⊢
                     refine pure_ (i := 0) (N := some 56) (v := ?_) (a' := ?_) #[true, false, false, false, false, false, false, false, false, false] rfl rfl (any_of HT_.out (by kernel_rfl)) (fun _ _ _ h => h) (Or.inl ⟨by rfl, ?_⟩) ?_ ?_
                     rotate_left
                     ·intro w'
                      go_simp
                      with_reducible rfl
                     rotate_left
                     ·simp only [Act.put, List.setIfInBounds_toArray, List.set_cons_zero, List.set_cons_succ, i64_w, i32_w]
                      rfl
                     refine pure_ (i := 1) (N := some 57) (v := ?_) (a' := ?_) #[true, true, false, false, false, false, false, false, false, false] rfl rfl (any_of HT_.out (by kernel_rfl)) (fun _ _ _ h => h) (Or.inl ⟨by rfl, ?_⟩) ?_ ?_
                     rotate_left
                     ·intro w'
                      go_simp
                      with_reducible rfl
                     rotate_left
                     ·simp only [Act.put, List.setIfInBounds_toArray, List.set_cons_zero, List.set_cons_succ, i64_w, i32_w]
                      rfl
                     refine pure_ (i := 5) (N := some 61) (v := ?_) (a' := ?_) #[true, true, false, false, false, true, false, false, false, false] rfl rfl (any_of HT_.out (by kernel_rfl)) (fun _ _ _ h => h) (Or.inl ⟨by rfl, ?_⟩) ?_ ?_
                     rotate_left
                     ·intro w'
                      go_simp
                      with_reducible rfl
                     rotate_left
                     ·simp only [Act.put, List.setIfInBounds_toArray, List.set_cons_zero, List.set_cons_succ, i64_w, i32_w]
                      rfl
                     refine take_ (i := 2) (N := some 58) (v := ?_) (a' := ?_) #[true, true, true, false, false, true, false, false, false, false] rfl rfl (take_ofW HT_.out HW_.out (by kernel_rfl)) (fun _ _ _ h => h) (Or.inl ⟨by rfl, ?_⟩) hHeld ?_ ?_
                     rotate_left
                     ·rintro w' ⟨s0, s1, s2, s3, s4⟩
                      go_simp
                      with_reducible rfl
                     rotate_left
                     ·simp only [Act.put, List.setIfInBounds_toArray, List.set_cons_zero, List.set_cons_succ, i64_w, i32_w]
                      rfl
                     refine pure_ (i := 3) (N := some 59) (v := ?_) (a' := ?_) #[true, true, true, true, false, true, false, false, false, false] rfl rfl (any_of HT_.out (by kernel_rfl)) (fun _ _ _ h => h) (Or.inl ⟨by rfl, ?_⟩) ?_ ?_
                     rotate_left
                     ·intro w'
                      go_simp
                      with_reducible rfl
                     rotate_left
                     ·simp only [Act.put, List.setIfInBounds_toArray, List.set_cons_zero, List.set_cons_succ, i64_w, i32_w]
                      rfl
                     refine take_ (i := 4) (N := some 60) (v := ?_) (a' := ?_) #[true, true, true, true, true, true, false, false, false, false] rfl rfl (take_ofW HT_.out HW_.out (by kernel_rfl)) (fun _ _ _ h => h) (Or.inl ⟨by rfl, ?_⟩) hHeld ?_ ?_
                     rotate_left
                     ·rintro w' ⟨s0, s1, s2, s3, s4⟩
                      go_simp
                      with_reducible rfl
                     rotate_left
                     ·simp only [Act.put, List.setIfInBounds_toArray, List.set_cons_zero, List.set_cons_succ, i64_w, i32_w]
                      rfl
                     refine take_ (i := 6) (N := some 62) (v := ?_) (a' := ?_) #[true, true, true, true, true, true, true, false, false, false] rfl rfl (take_ofW HT_.out HW_.out (by kernel_rfl)) (fun _ _ _ h => h) (Or.inl ⟨by rfl, ?_⟩) hHeld ?_ ?_
                     rotate_left
                     ·rintro w' ⟨s0, s1, s2, s3, s4⟩
                      go_simp
                      with_reducible rfl
                     rotate_left
                     ·simp only [Act.put, List.setIfInBounds_toArray, List.set_cons_zero, List.set_cons_succ, i64_w, i32_w]
                      rfl
                     refine pure_ (i := 7) (N := some 63) (v := ?_) (a' := ?_) #[true, true, true, true, true, true, true, true, false, false] rfl rfl (any_of HT_.out (by kernel_rfl)) (fun _ _ _ h => h) (Or.inl ⟨by rfl, ?_⟩) ?_ ?_
                     rotate_left
                     ·intro w'
                      go_simp
                      with_reducible rfl
                     rotate_left
                     ·simp only [Act.put, List.setIfInBounds_toArray, List.set_cons_zero, List.set_cons_succ, i64_w, i32_w]
                      rfl
                     refine pure_ (i := 8) (N := some 64) (v := ?_) (a' := ?_) #[true, true, true, true, true, true, true, true, true, false] rfl rfl (any_of HT_.out (by kernel_rfl)) (fun _ _ _ h => h) (Or.inl ⟨by rfl, ?_⟩) ?_ ?_
                     rotate_left
                     ·intro w'
                      go_simp
                      with_reducible rfl
                     rotate_left
                     ·simp only [Act.put, List.setIfInBounds_toArray, List.set_cons_zero, List.set_cons_succ, i64_w, i32_w]
                      rfl
                     refine last_ (i := 9) (N := none) #[true, true, true, true, true, true, true, true, true, true] rfl rfl (one_of HT_.out (by kernel_rfl)) (by decide) (fun K hK => ?_)
                     refine skip_ (w1 := ?_) (by rfl) rfl ?_ ?_
                     rotate_left
                     ·go_simp
                      rfl
                     refine hK.out _ _ ?_
                     clear hK K
                     refine done_ (done_of HT_.out (by kernel_rfl)) ?_
                     have n0_ : Aside0 (Kd.R (Kd.int .i64) 3 (w49.setCell ⟨go28, (((rd_T71 ((rd_T68 l1 x9_1).f2) x11_2).f0) : Int).toNat, none⟩ (.int .i64 (wrap64 ((rd x7_2 ((rd_T71 ((rd_T68 l1 x9_1).f2) x11_2).f0)) + ((rd_T71 ((rd_T68 l1 x9_1).f2) x11_2).f1))))) w.heap.size (fun _ => True) (.slice (some ⟨go28, 0, none⟩) x7_2.length co50) y179) := ⟨by (with_reducible repeat (first | apply Kd.R_alloc | apply Kd.R_drewN | apply Kd.R_drew)); exact HQ51.out⟩
                     have n1_ : Aside0 (Kd.R Kd.bool 4 (w49.setCell ⟨go28, (((rd_T71 ((rd_T68 l1 x9_1).f2) x11_2).f0) : Int).toNat, none⟩ (.int .i64 (wrap64 ((rd x7_2 ((rd_T71 ((rd_T68 l1 x9_1).f2) x11_2).f0)) + ((rd_T71 ((rd_T68 l1 x9_1).f2) x11_2).f1))))) w.heap.size (fun _ => True) v172 x8_2) := ⟨by (with_reducible repeat (first | apply Kd.R_alloc | apply Kd.R_drewN | apply Kd.R_drew)); exact Kd.R_mono (Kd.R_far (p := ⟨go28, (((rd_T71 ((rd_T68 l1 x9_1).f2) x11_2).f0) : Int).toNat, none⟩) (Kd.R_types HO_8.out GG28.out (by decide)) (fun _ hk => hk.2) (.int .i64 (wrap64 ((rd x7_2 ((rd_T71 ((rd_T68 l1 x9_1).f2) x11_2).f0)) + ((rd_T71 ((rd_T68 l1 x9_1).f2) x11_2).f1))))) (fun _ hk => trivial)⟩
                     have n2_ : Aside0 ((w49.setCell ⟨go28, (((rd_T71 ((rd_T68 l1 x9_1).f2) x11_2).f0) : Int).toNat, none⟩ (.int .i64 (wrap64 ((rd x7_2 ((rd_T71 ((rd_T68 l1 x9_1).f2) x11_2).f0)) + ((rd_T71 ((rd_T68 l1 x9_1).f2) x11_2).f1))))).heap[gb166]? = some (.cells #[.int .i64 a0_0, .int .i64 a0_1, .int .i64 a0_2] 38 (0, 0))) := ⟨by (with_reducible repeat (first | refine blk_drewN ?_ _ | refine blk_drew ?_ | refine blk_alloc ?_ _)); refine blk_far ?_ (by have h_ := Kd.R_ne HO_7.out BK166.out (by decide); intro e_; exact h_ (by rw [e_]; rfl)) _; (with_reducible repeat (first | refine blk_drewN ?_ _ | refine blk_drew ?_ | refine blk_alloc ?_ _)); exact BK166.out⟩
                     have n3_ : Aside0 ((w49.setCell ⟨go28, (((rd_T71 ((rd_T68 l1 x9_1).f2) x11_2).f0) : Int).toNat, none⟩ (.int .i64 (wrap64 ((rd x7_2 ((rd_T71 ((rd_T68 l1 x9_1).f2) x11_2).f0)) + ((rd_T71 ((rd_T68 l1 x9_1).f2) x11_2).f1))))).heap[gb177]? = some (.cells #[.int .i64 ((rd_T71 ((rd_T68 l1 x9_1).f2) x11_2).f0), .int .i64 ((rd_T71 ((rd_T68 l1 x9_1).f2) x11_2).f1), .int .i64 ((rd_T71 ((rd_T68 l1 x9_1).f2) x11_2).f2), .int .i64 ((rd_T71 ((rd_T68 l1 x9_1).f2) x11_2).f3)] 71 (0, 0))) := ⟨by (with_reducible repeat (first | refine blk_drewN ?_ _ | refine blk_drew ?_ | refine blk_alloc ?_ _)); refine blk_far ?_ (by have h_ := Kd.R_ne HO_7.out BK177.out (by decide); intro e_; exact h_ (by rw [e_]; rfl)) _; (with_reducible repeat (first | refine blk_drewN ?_ _ | refine blk_drew ?_ | refine blk_alloc ?_ _)); exact BK177.out⟩
                     have n4_ : Aside0 (Below w.heap.size w (w49.setCell ⟨go28, (((rd_T71 ((rd_T68 l1 x9_1).f2) x11_2).f0) : Int).toNat, none⟩ (.int .i64 (wrap64 ((rd x7_2 ((rd_T71 ((rd_T68 l1 x9_1).f2) x11_2).f0)) + ((rd_T71 ((rd_T68 l1 x9_1).f2) x11_2).f1)))))) := ⟨by repeat (first | (with_reducible first | exact HB.out | apply below_alloc | apply pw_below_drewN | apply below_drew1 | refine below_set ?_ GB28.out | refine below_set ?_ GE166.out | refine below_set ?_ GE177.out) | exact HB.out)⟩
                     (try clear HO_7)
                     (try clear HO_8)
                     (try clear BK166)
                     (try clear BK177)
                     (try clear HB)
                     generalize (w49.setCell ⟨go28, (((rd_T71 ((rd_T68 l1 x9_1).f2) x11_2).f0) : Int).toNat, none⟩ (.int .i64 (wrap64 ((rd x7_2 ((rd_T71 ((rd_T68 l1 x9_1).f2) x11_2).f0)) + ((rd_T71 ((rd_T68 l1 x9_1).f2) x11_2).f1))))) = w52 at n0_ n1_ n2_ n3_ n4_ ⊢
                     have HO_7 := n0_
                     have HO_8 := n1_
                     have BK166 := n2_
                     have BK177 := n3_
                     have HB := n4_
                     clear n0_ n1_ n2_ n3_ n4_
                     have hcz53_0 : w52.cell? ⟨gb177, 0, none⟩ = some (.int .i64 ((rd_T71 ((rd_T68 l1 x9_1).f2) x11_2).f0)) := (blk_cell BK177.out 0).trans rfl
                     have hcz53_1 : w52.cell? ⟨gb177, 1, none⟩ = some (.int .i64 ((rd_T71 ((rd_T68 l1 x9_1).f2) x11_2).f1)) := (blk_cell BK177.out 1).trans rfl
                     have hcz53_2 : w52.cell? ⟨gb177, 2, none⟩ = some (.int .i64 ((rd_T71 ((rd_T68 l1 x9_1).f2) x11_2).f2)) := (blk_cell BK177.out 2).trans rfl
                     have hcz53_3 : w52.cell? ⟨gb177, 3, none⟩ = some (.int .i64 ((rd_T71 ((rd_T68 l1 x9_1).f2) x11_2).f3)) := (blk_cell BK177.out 3).trans rfl
                     have hfz53_0 := blk_frozen BK177.out 0
                     have hfz53_1 := blk_frozen BK177.out 1
                     have hfz53_2 := blk_frozen BK177.out 2
                     have hfz53_3 := blk_frozen BK177.out 3
                     obtain ⟨Ao54, co54, eo54⟩ := Kd.R_slice HO_8.out
                     subst eo54
                     have p180 : 0 ≤ ((ji29) : Int) := of_decide_eq_true (by first | (with_reducible assumption) | assumption)
                     have q180 : (ji29) < (x8_2.length : Int) := of_decide_eq_true (by first | (with_reducible assumption) | assumption)
                     obtain ⟨ad180, e180, hx180_0⟩ := Kd.at_bool (Kd.R_reads' HO_8.out).2.2 (ji29) p180 q180
                     (try rw [← Nbq32.out] at hx180_0)
                     cases e180
                     replace p180 := eq_true p180
                     replace q180 := eq_true q180
                     have p43 : 0 ≤ ((ji29) : Int) := of_decide_eq_true (by first | (with_reducible assumption) | assumption)
                     have q43 : ((ji29) : Int) < ((x8_2.length : Int) : Int) := of_decide_eq_true (by first | (with_reducible assumption) | assumption)
                     obtain ⟨go43, co43, eo43, gb43, gl43, cl43, HG43⟩ := Kd.R_form HO_8.out (by omega)
                     (first | cases eo43 | (injection eo43 with ea_ en_ ec_; (first | subst ea_ | (injection ea_ with ea_; subst ea_)); subst ec_; clear en_))
                     have GB43 := Aside0.mk gb43
                     have GG43 := Aside0.mk HG43
                     clear gb43 gl43 HG43
                     (first | simp only [add_plain] at hx180_0 | skip)
                     obtain ⟨hx43_0, hf43_0⟩ := Kd.R_celln false HO_8.out ((ji29) : Int) p43 q43
                     replace p43 := eq_true p43
                     replace q43 := eq_true q43
                     obtain ⟨hy55_, hz55_⟩ := Kd.R_celln false HO_8.out ((ji29) : Int) (of_decide_eq_true (by first | (with_reducible assumption) | assumption)) (of_decide_eq_true (by first | (with_reducible assumption) | assumption))
                     have HP55 := Kd.R_putg HO_8.out ((ji29) : Int) true
                     try go_wp2_with (first | ((with_reducible refine gate_store (t := 4) (p := 82) rfl ?_); refine store_event (t := 4) (p := 82) (v := ?vo_w56) (w1 := (w52.setCell ⟨go43, ((ji29) : Int).toNat, none⟩ (.bool true))) ?hg ?ho ?hn ?hr ?_; (case ho => rfl); (case hg => rfl); (case hn => rfl); (case hr => first | (go_simp; done) | (go_simp; rfl)); intro w56 hw; have hg : w52.grownBy w56 (some go43) := (by rw [hw]; exact HP55.2); have hp_ : Kd.R Kd.bool 4 w56 w.heap.size (fun _ => True) (.slice (some ⟨go43, 0, none⟩) x8_2.length co54) y181 := (by rw [hw, Ny181.out]; exact HP55.1); clear HP55; have n0_ := Aside0.mk (Kd.R_over' (v := (.slice (some ⟨go43, 0, none⟩) x8_2.length co54)) (by (with_reducible repeat (first | apply Kd.R_alloc | apply Kd.R_drewN | apply Kd.R_drew)); exact HO_7.out) (Kd.R_typed HO_8.out) (by decide) hg); have n1_ := Aside0.mk (hp_); have n2_ := Aside0.mk (blk_grown (g := gb166) (o := .cells #[.int .i64 a0_0, .int .i64 a0_1, .int .i64 a0_2] 38 (0, 0)) (by (with_reducible repeat (first | refine blk_drewN ?_ _ | refine blk_drew ?_ | refine blk_alloc ?_ _)); exact BK166.out) hg (Kd.R_ne HO_8.out BK166.out (by decide))); have n3_ := Aside0.mk (blk_grown (g := gb177) (o := .cells #[.int .i64 ((rd_T71 ((rd_T68 l1 x9_1).f2) x11_2).f0), .int .i64 ((rd_T71 ((rd_T68 l1 x9_1).f2) x11_2).f1), .int .i64 ((rd_T71 ((rd_T68 l1 x9_1).f2) x11_2).f2), .int .i64 ((rd_T71 ((rd_T68 l1 x9_1).f2) x11_2).f3)] 71 (0, 0)) (by (with_reducible repeat (first | refine blk_drewN ?_ _ | refine blk_drew ?_ | refine blk_alloc ?_ _)); exact BK177.out) hg (Kd.R_ne HO_8.out BK177.out (by decide))); have n4_ := Aside0.mk ((by rw [hw]; exact below_set (HB.out) GB43.out : Below w.heap.size w w56)); clear HO_7; clear HO_8; clear BK166; clear BK177; clear HB; have HO_7 := n0_; have HO_8 := n1_; have BK166 := n2_; have BK177 := n3_; have HB := n4_; clear n0_ n1_ n2_ n3_ n4_; clear hg hw hp_))
                     have n0_ := Aside0.mk (Kd.R_drew HO_7.out)
                     have n1_ := Aside0.mk (Kd.R_drew HO_8.out)
                     have n2_ := Aside0.mk (blk_drew BK166.out)
                     have n3_ := Aside0.mk (blk_drew BK177.out)
                     have n4_ := Aside0.mk (below_drew1 HB.out)
                     clear HO_7
                     clear HO_8
                     clear BK166
                     clear BK177
                     clear HB
                     have HO_7 := n0_
                     have HO_8 := n1_
                     have BK166 := n2_
                     have BK177 := n3_
                     have HB := n4_
                     clear n0_ n1_ n2_ n3_ n4_
                     have p182 : 0 ≤ (((rd_T71 ((rd_T68 l1 x9_1).f2) x11_2).f0) : Int) := of_decide_eq_true (by first | (with_reducible assumption) | assumption)
                     have q182 : ((rd_T71 ((rd_T68 l1 x9_1).f2) x11_2).f0) < (y179.length : Int) := (by have h_ : (((rd_T71 ((rd_T68 l1 x9_1).f2) x11_2).f0) : Int) < ((x7_2.length : Int) : Int) := of_decide_eq_true (by first | (with_reducible assumption) | assumption); first | (have e_ := (Kd.R_reads' HO_7.out).1; omega) | simpa only [Ny179.out, List.length_set] using h_)
                     have ql182 : ((((rd_T71 ((rd_T68 l1 x9_1).f2) x11_2).f0) : Int) < ((x7_2.length : Int) : Int)) = True := eq_true (of_decide_eq_true (by first | (with_reducible assumption) | assumption))
                     obtain ⟨ad182, e182, hx182_0⟩ := Kd.at_int (Kd.R_reads' HO_7.out).2.2 ((rd_T71 ((rd_T68 l1 x9_1).f2) x11_2).f0) p182 q182
                     obtain rfl : (⟨go28, 0, none⟩ : Addr) = ad182 := (by injection e182)
                     (first | simp only [add_plain] at hx182_0 | simp only [add_at] at hx182_0 | simp only [Addr.add, Nat.zero_add] at hx182_0 | skip)
                     replace p182 := eq_true p182
                     replace q182 := eq_true q182
                     have p44 : 0 ≤ (((rd_T71 ((rd_T68 l1 x9_1).f2) x11_2).f0) : Int) := of_decide_eq_true (by first | (with_reducible assumption) | assumption)
                     have q44 : (((rd_T71 ((rd_T68 l1 x9_1).f2) x11_2).f0) : Int) < ((x7_2.length : Int) : Int) := of_decide_eq_true (by first | (with_reducible assumption) | assumption)
                     obtain ⟨hx44_0, hf44_0⟩ := Kd.R_celln 0 HO_7.out (((rd_T71 ((rd_T68 l1 x9_1).f2) x11_2).f0) : Int) p44 q44
                     replace p44 := eq_true p44
                     replace q44 := eq_true q44
                     have HP58 := Kd.R_putn HO_7.out (((rd_T71 ((rd_T68 l1 x9_1).f2) x11_2).f0) : Int) (wrap64 ((rd y179 ((rd_T71 ((rd_T68 l1 x9_1).f2) x11_2).f0)) + a0_1))
                     rw [← Ny183.out] at HP58
                     have HQ58 := Aside0.mk HP58
                     clear HP58
                     refine start_ (n := 10) (S := fun w' => w'.cell? ⟨gb177, 0, none⟩ = some (.int .i64 ((rd_T71 ((rd_T68 l1 x9_1).f2) x11_2).f0)) ∧ w'.cell? ⟨gb177, 1, none⟩ = some (.int .i64 ((rd_T71 ((rd_T68 l1 x9_1).f2) x11_2).f1)) ∧ w'.cell? ⟨gb177, 2, none⟩ = some (.int .i64 ((rd_T71 ((rd_T68 l1 x9_1).f2) x11_2).f2)) ∧ w'.cell? ⟨gb177, 3, none⟩ = some (.int .i64 ((rd_T71 ((rd_T68 l1 x9_1).f2) x11_2).f3)) ∧ w'.cell? ⟨gb166, 0, none⟩ = some (.int .i64 a0_0) ∧ w'.cell? ⟨gb166, 1, none⟩ = some (.int .i64 a0_1) ∧ w'.cell? ⟨gb166, 2, none⟩ = some (.int .i64 a0_2) ∧ w'.cell? ⟨go28, (((rd_T71 ((rd_T68 l1 x9_1).f2) x11_2).f0)).toNat, none⟩ = some (.int .i64 (rd y179 ((rd_T71 ((rd_T68 l1 x9_1).f2) x11_2).f0)))) (ds := [9]) #[false, false, false, false, false, false, false, false, false, false] (by kernel_rfl) rfl rfl ⟨(blk_cell BK177.out 0).trans rfl, (blk_cell BK177.out 1).trans rfl, (blk_cell BK177.out 2).trans rfl, (blk_cell BK177.out 3).trans rfl, (blk_cell BK166.out 0).trans rfl, (blk_cell BK166.out 1).trans rfl, (blk_cell BK166.out 2).trans rfl, hx182_0⟩ (fun hHeld => ?_); refine with_tabW spec_Bound.tab20 spec_Bound.bits20 (fun HT_ HW_ => ?_)
                     generalize w56.drew = w57 at HO_7 HO_8 BK166 BK177 HB HQ58 hf44_0 hx182_0 hx44_0 hHeld ⊢
                     (try (obtain ⟨_, hoz_⟩ := Kd.R_own HO_7.out; obtain ⟨clz_, hz_⟩ := own_typed hoz_ go28 (by simp [Value.ownBlock]); have GG28 := Aside0.mk hz_; clear hoz_ hz_))
                     (try (obtain ⟨_, hoz_⟩ := Kd.R_own HO_8.out; obtain ⟨clz_, hz_⟩ := own_typed hoz_ go43 (by simp [Value.ownBlock]); have GG43 := Aside0.mk hz_; clear hoz_ hz_))
                     refine pure_ (i := 0) (N := some 83) (v := ?_) (a' := ?_) #[true, false, false, false, false, false, false, false, false, false] rfl rfl (any_of HT_.out (by kernel_rfl)) (fun _ _ _ h => h) (Or.inl ⟨by rfl, ?_⟩) ?_ ?_
                     rotate_left
                     ·intro w'
                      go_simp
                      with_reducible rfl
                     rotate_left
                     ·simp only [Act.put, List.setIfInBounds_toArray, List.set_cons_zero, List.set_cons_succ, i64_w, i32_w]
                      rfl
                     refine pure_ (i := 1) (N := some 84) (v := ?_) (a' := ?_) #[true, true, false, false, false, false, false, false, false, false] rfl rfl (any_of HT_.out (by kernel_rfl)) (fun _ _ _ h => h) (Or.inl ⟨by rfl, ?_⟩) ?_ ?_
                     rotate_left
                     ·intro w'
                      go_simp
                      with_reducible rfl
                     rotate_left
                     ·simp only [Act.put, List.setIfInBounds_toArray, List.set_cons_zero, List.set_cons_succ, i64_w, i32_w]
                      rfl
                     refine pure_ (i := 5) (N := some 88) (v := ?_) (a' := ?_) #[true, true, false, false, false, true, false, false, false, false] rfl rfl (any_of HT_.out (by kernel_rfl)) (fun _ _ _ h => h) (Or.inl ⟨by rfl, ?_⟩) ?_ ?_
                     rotate_left
                     ·intro w'
                      go_simp
                      with_reducible rfl
                     rotate_left
                     ·simp only [Act.put, List.setIfInBounds_toArray, List.set_cons_zero, List.set_cons_succ, i64_w, i32_w]
                      rfl
                     refine take_ (i := 2) (N := some 85) (v := ?_) (a' := ?_) #[true, true, true, false, false, true, false, false, false, false] rfl rfl (take_ofW HT_.out HW_.out (by kernel_rfl)) (fun _ _ _ h => h) (Or.inl ⟨by rfl, ?_⟩) hHeld ?_ ?_
                     rotate_left
                     ·rintro w' ⟨s0, s1, s2, s3, s4, s5, s6, s7⟩
                      go_simp
                      with_reducible rfl
                     rotate_left
                     ·simp only [Act.put, List.setIfInBounds_toArray, List.set_cons_zero, List.set_cons_succ, i64_w, i32_w]
                      rfl
                     refine pure_ (i := 3) (N := some 86) (v := ?_) (a' := ?_) #[true, true, true, true, false, true, false, false, false, false] rfl rfl (any_of HT_.out (by kernel_rfl)) (fun _ _ _ h => h) (Or.inl ⟨by rfl, ?_⟩) ?_ ?_
                     rotate_left
                     ·intro w'
                      go_simp
                      with_reducible rfl
                     rotate_left
                     ·simp only [Act.put, List.setIfInBounds_toArray, List.set_cons_zero, List.set_cons_succ, i64_w, i32_w]
                      rfl
                     refine take_ (i := 4) (N := some 87) (v := ?_) (a' := ?_) #[true, true, true, true, true, true, false, false, false, false] rfl rfl (take_ofW HT_.out HW_.out (by kernel_rfl)) (fun _ _ _ h => h) (Or.inl ⟨by rfl, ?_⟩) hHeld ?_ ?_
                     rotate_left
                     ·rintro w' ⟨s0, s1, s2, s3, s4, s5, s6, s7⟩
                      go_simp
                      with_reducible rfl
                     rotate_left
                     ·simp only [Act.put, List.setIfInBounds_toArray, List.set_cons_zero, List.set_cons_succ, i64_w, i32_w]
                      rfl
                     refine take_ (i := 6) (N := some 89) (v := ?_) (a' := ?_) #[true, true, true, true, true, true, true, false, false, false] rfl rfl (take_ofW HT_.out HW_.out (by kernel_rfl)) (fun _ _ _ h => h) (Or.inl ⟨by rfl, ?_⟩) hHeld ?_ ?_
                     rotate_left
                     ·rintro w' ⟨s0, s1, s2, s3, s4, s5, s6, s7⟩
                      go_simp
                      with_reducible rfl
                     rotate_left
                     ·simp only [Act.put, List.setIfInBounds_toArray, List.set_cons_zero, List.set_cons_succ, i64_w, i32_w]
                      rfl
                     refine pure_ (i := 7) (N := some 90) (v := ?_) (a' := ?_) #[true, true, true, true, true, true, true, true, false, false] rfl rfl (any_of HT_.out (by kernel_rfl)) (fun _ _ _ h => h) (Or.inl ⟨by rfl, ?_⟩) ?_ ?_
                     rotate_left
                     ·intro w'
                      go_simp
                      with_reducible rfl
                     rotate_left
                     ·simp only [Act.put, List.setIfInBounds_toArray, List.set_cons_zero, List.set_cons_succ, i64_w, i32_w]
                      rfl
                     refine pure_ (i := 8) (N := some 91) (v := ?_) (a' := ?_) #[true, true, true, true, true, true, true, true, true, false] rfl rfl (any_of HT_.out (by kernel_rfl)) (fun _ _ _ h => h) (Or.inl ⟨by rfl, ?_⟩) ?_ ?_
                     rotate_left
                     ·intro w'
                      go_simp
                      with_reducible rfl
                     rotate_left
                     ·simp only [Act.put, List.setIfInBounds_toArray, List.set_cons_zero, List.set_cons_succ, i64_w, i32_w]
                      rfl
                     refine last_ (i := 9) (N := none) #[true, true, true, true, true, true, true, true, true, true] rfl rfl (one_of HT_.out (by kernel_rfl)) (by decide) (fun K hK => ?_)
                     refine skip_ (w1 := ?_) (by rfl) rfl ?_ ?_
                     rotate_left
                     ·go_simp
                      rfl
                     refine hK.out _ _ ?_
                     clear hK K
                     refine done_ (done_of HT_.out (by kernel_rfl)) ?_
                     try go_wp2
                     go_roundg k2
                     case measure => have := HK1.out; have := HK2.out; omega
                     case rel => exact ⟨(y183), (y181), (wrap64 (x10_2 + ((rd_T71 ((rd_T68 l1 x9_1).f2) x11_2).f1))), (wrap64 (x11_2 + 1)), (by first | rfl | (simp; done) | (simp [*]; done)), (by first | rfl | (simp; done) | (simp [*]; done)), H', ⟨by have := HK1.out; have := HK2.out; omega⟩, ⟨by (with_reducible repeat (first | apply Kd.R_alloc | apply Kd.R_drewN | apply Kd.R_drew)); exact HQ58.out⟩, ⟨by (with_reducible repeat (first | apply Kd.R_alloc | apply Kd.R_drewN | apply Kd.R_drew)); exact Kd.R_mono (Kd.R_far (p := ⟨go28, (((rd_T71 ((rd_T68 l1 x9_1).f2) x11_2).f0) : Int).toNat, none⟩) (Kd.R_types HO_8.out GG28.out (by decide)) (fun _ hk => hk.2) (.int .i64 (wrap64 ((rd y179 ((rd_T71 ((rd_T68 l1 x9_1).f2) x11_2).f0)) + a0_1)))) (fun _ hk => trivial)⟩, ⟨by (with_reducible repeat (first | refine blk_drewN ?_ _ | refine blk_drew ?_ | refine blk_alloc ?_ _)); refine blk_far ?_ (by have h_ := Kd.R_ne HO_7.out BK166.out (by decide); intro e_; exact h_ (by rw [e_]; rfl)) _; (with_reducible repeat (first | refine blk_drewN ?_ _ | refine blk_drew ?_ | refine blk_alloc ?_ _)); exact BK166.out⟩, ⟨by repeat (first | (with_reducible first | exact HB.out | apply below_alloc | apply pw_below_drewN | apply below_drew1 | refine below_set ?_ GB28.out | refine below_set ?_ GE166.out | refine below_set ?_ GE177.out) | exact HB.out)⟩⟩
                   ·rw [if_neg c31] at H
                    exact absurd H (by simp)
                  ·rw [if_neg c30] at H
                   exact absurd H (by simp)
                 ·rw [if_neg c27] at H
                  exact absurd H (by simp)
                ·rw [if_neg c26] at H
                 exact absurd H (by simp)
               ·rw [if_neg c25] at H
                exact absurd H (by simp)
              ·rw [if_neg c24] at H
               have c24b0 : decide (x11_2 < (((rd_T68 l1 x9_1).f2).length : Int)) = false := decide_eq_false c24
               clear c24
               obtain ⟨ji59, hji59⟩ : ∃ j_ : Int, (mx x6_1 x10_2) = j_ := ⟨_, rfl⟩
               replace H : (spec_Bound.l0 k2 l1 ji59 x7_2 x8_2 (wrap64 (x9_1 + 1)) a0_0 a0_1 a0_2) = some (r1, r2) := by first | (rw [hji59] at H; exact H) | (simp only [hji59] at H ⊢; exact H)
               have hji59_ : (if x6_1 < x10_2 then x10_2 else x6_1) = ji59 := hji59
               have H' := Aside0.mk H
               clear H
               have p174 : 0 ≤ (x9_1 : Int) := of_decide_eq_true (by first | (with_reducible assumption) | assumption)
               have q174 : x9_1 < (l1.length : Int) := of_decide_eq_true (by first | (with_reducible assumption) | assumption)
               obtain ⟨ad174, A174_2, c174_2, e174, hx174_0, hx174_1, hx174_2, hl174_2, hi174_2⟩ := at_T68 HR1.out x9_1 p174 q174
               cases e174
               replace hx174_0 := (HB.out.cell (World.block_lt_of_cell? w _ hx174_0)).trans hx174_0
               replace hx174_1 := (HB.out.cell (World.block_lt_of_cell? w _ hx174_1)).trans hx174_1
               replace hx174_2 := (HB.out.cell (World.block_lt_of_cell? w _ hx174_2)).trans hx174_2
               have HR174_2 := Aside0.mk hi174_2
               have HC174_2 := Aside0.mk hl174_2
               clear hi174_2 hl174_2
               replace p174 := eq_true p174
               replace q174 := eq_true q174
               go_wp2
               go_roundg k2
               case measure => have := HK1.out; have := HK2.out; omega
               case rel => exact ⟨(ji59), (x7_2), (x8_2), (wrap64 (x9_1 + 1)), (by first | rfl | (simp; done) | (simp only [← hji59] <;> (first | rfl | simp)) | (simp [*]; done)), (by first | rfl | (simp; done) | (simp [*]; done)), H', ⟨by have := HK1.out; have := HK2.out; omega⟩, ⟨by (with_reducible repeat (first | apply Kd.R_alloc | apply Kd.R_drewN | apply Kd.R_drew)); exact HO_7.out⟩, ⟨by (with_reducible repeat (first | apply Kd.R_alloc | apply Kd.R_drewN | apply Kd.R_drew)); exact HO_8.out⟩, ⟨by (with_reducible repeat (first | refine blk_drewN ?_ _ | refine blk_drew ?_ | refine blk_alloc ?_ _)); exact BK166.out⟩, ⟨by repeat (first | (with_reducible first | exact HB.out | apply below_alloc | apply pw_below_drewN | apply below_drew1 | refine below_set ?_ GE166.out) | exact HB.out)⟩⟩
             ·rw [if_neg c23] at H
              exact absurd H (by simp)
            ·rw [if_neg c22] at H
             exact absurd H (by simp)
         ·rw [if_neg c21] at H
          have c21b0 : decide (x9_1 < (l1.length : Int)) = false := decide_eq_false c21
          clear c21
          have H' := Aside0.mk H
          clear H
          go_wp2
          go_loopg [6, 13] k1 (fun kq v6 v13 w' => ∃ (x6_2 : Int) (x13_2 : Int), v6 = .int .i64 x6_2 ∧ v13 = .int .i64 x13_2 ∧ Aside0 (spec_Bound.l2 kq x6_2 x7_1 x13_2 a0_0 a0_1 a0_2 = some (r1, r2)) ∧ Aside0 (kq ≤ k1) ∧ Aside0 (Kd.R (Kd.int .i64) 3 w' w.heap.size (fun _ => True) v169 x7_1) ∧ Aside0 (w'.heap[gb166]? = some (.cells #[.int .i64 a0_0, .int .i64 a0_1, .int .i64 a0_2] 38 (0, 0))) ∧ Aside0 (Below w.heap.size w w'))
          case atStart => exact ⟨(x6_1), (0), (by first | rfl | (simp; done) | (simp [*]; done)), (by first | rfl | (simp; done) | (simp [*]; done)), H', ⟨Nat.le_refl _⟩, ⟨by (with_reducible repeat (first | apply Kd.R_alloc | apply Kd.R_drewN | apply Kd.R_drew)); exact HO_7.out⟩, ⟨by (with_reducible repeat (first | refine blk_drewN ?_ _ | refine blk_drew ?_ | refine blk_alloc ?_ _)); exact BK166.out⟩, ⟨by repeat (first | (with_reducible first | exact HB.out | apply below_alloc | apply pw_below_drewN | apply below_drew1 | refine below_set ?_ GE166.out) | exact HB.out)⟩⟩
          case round =>
           clear H'
           try clear c1
           try clear p1
           try clear q1
           try clear hx1
           try clear c2
           try clear p2
           try clear q2
           try clear hx2
           try clear hf2
           try clear c3
           try clear q3
           try clear c4
           try clear p4
           try clear q4
           try clear hx4
           try clear hf4
           try clear p6
           try clear c17
           try clear p17
           try clear q17
           try clear hx17
           try clear p18
           try clear q18
           try clear hx18
           try clear c21
           try clear c21b0
           try clear c22
           try clear c23
           try clear c24
           try clear c24b0
           try clear c25
           try clear c26
           try clear c27
           try clear p28
           try clear q28
           try clear hx28
           try clear hf28
           try clear c30
           try clear c31
           try clear q32
           try clear c33
           try clear c35
           try clear p43
           try clear q43
           try clear hx43
           try clear hf43
           try clear p44
           try clear q44
           try clear hx44
           try clear hf44
           try clear c46
           try clear hcz36_0
           try clear hcz36_1
           try clear hcz36_2
           try clear hcz36_3
           try clear hcz41_0
           try clear hcz41_1
           try clear hcz41_2
           try clear hcz41_3
           try clear hcz47_0
           try clear hcz47_1
           try clear hcz47_2
           try clear hcz47_3
           try clear hcz53_0
           try clear hcz53_1
           try clear hcz53_2
           try clear hcz53_3
           try clear hfz36_0
           try clear hfz36_1
           try clear hfz36_2
           try clear hfz36_3
           try clear hfz41_0
           try clear hfz41_1
           try clear hfz41_2
           try clear hfz41_3
           try clear hfz47_0
           try clear hfz47_1
           try clear hfz47_2
           try clear hfz47_3
           try clear hfz53_0
           try clear hfz53_1
           try clear hfz53_2
           try clear hfz53_3
           try clear hx174_0
           try clear hx174_1
           try clear hx174_2
           try clear hx175_0
           try clear hx175_1
           try clear hx175_2
           try clear hx176_0
           try clear hx176_1
           try clear hx176_2
           try clear hx176_3
           try clear hx178_0
           try clear hx180_0
           try clear hx182_0
           try clear hx28_0
           try clear hx43_0
           try clear hx44_0
           try clear p174
           try clear p175
           try clear p176
           try clear p178
           try clear p180
           try clear p182
           try clear p28
           try clear p43
           try clear p44
           try clear q174
           try clear q175
           try clear q176
           try clear q178
           try clear q180
           try clear q182
           try clear q28
           try clear q43
           try clear q44
           obtain ⟨x6_2, x13_2, rfl, rfl, HA, HK2, HO_7, BK166, HB⟩ := hrel
           cases gk with
           | zero => exact absurd HA.out (by simp [spec_Bound.l2])
           | succ k2 =>
            have H := HA.out
            clear HA
            simp only [spec_Bound.l2] at H
            by_cases c60 : x13_2 < a0_0
            ·rw [if_pos c60] at H
             have c60b0 : decide (x13_2 < a0_0) = true := decide_eq_true c60
             clear c60
             by_cases c61 : 0 ≤ x13_2
             ·rw [if_pos c61] at H
              have c61b0 : decide (0 ≤ x13_2) = true := decide_eq_true c61
              clear c61
              by_cases c62 : x13_2 < (x7_1.length : Int)
              ·rw [if_pos c62] at H
               have c62b0 : decide (x13_2 < (x7_1.length : Int)) = true := decide_eq_true c62
               clear c62
               obtain ⟨ji63, hji63⟩ : ∃ j_ : Int, (mx x6_2 (rd x7_1 x13_2)) = j_ := ⟨_, rfl⟩
               replace H : (spec_Bound.l2 k2 ji63 x7_1 (wrap64 (x13_2 + 1)) a0_0 a0_1 a0_2) = some (r1, r2) := by first | (rw [hji63] at H; exact H) | (simp only [hji63] at H ⊢; exact H)
               have hji63_ : (if x6_2 < (rd x7_1 x13_2) then (rd x7_1 x13_2) else x6_2) = ji63 := hji63
               have H' := Aside0.mk H
               clear H
               have hcz64_0 : wr.cell? ⟨gb166, 0, none⟩ = some (.int .i64 a0_0) := (blk_cell BK166.out 0).trans rfl
               have hcz64_1 : wr.cell? ⟨gb166, 1, none⟩ = some (.int .i64 a0_1) := (blk_cell BK166.out 1).trans rfl
               have hcz64_2 : wr.cell? ⟨gb166, 2, none⟩ = some (.int .i64 a0_2) := (blk_cell BK166.out 2).trans rfl
               have hfz64_0 := blk_frozen BK166.out 0
               have hfz64_1 := blk_frozen BK166.out 1
               have hfz64_2 := blk_frozen BK166.out 2
               obtain ⟨Ao65, co65, eo65⟩ := Kd.R_slice HO_7.out
               subst eo65
               have p184 : 0 ≤ (x13_2 : Int) := of_decide_eq_true (by first | (with_reducible assumption) | assumption)
               have q184 : x13_2 < (x7_1.length : Int) := of_decide_eq_true (by first | (with_reducible assumption) | assumption)
               obtain ⟨ad184, e184, hx184_0⟩ := Kd.at_int (Kd.R_reads' HO_7.out).2.2 x13_2 p184 q184
               cases e184
               replace p184 := eq_true p184
               replace q184 := eq_true q184
               go_wp2
               go_roundg k2
               case measure => have := HK1.out; have := HK2.out; omega
               case rel => exact ⟨(ji63), (wrap64 (x13_2 + 1)), (by first | rfl | (simp; done) | (simp only [← hji63] <;> (first | rfl | simp)) | (simp [*]; done)), (by first | rfl | (simp; done) | (simp [*]; done)), H', ⟨by have := HK1.out; have := HK2.out; omega⟩, ⟨by (with_reducible repeat (first | apply Kd.R_alloc | apply Kd.R_drewN | apply Kd.R_drew)); exact HO_7.out⟩, ⟨by (with_reducible repeat (first | refine blk_drewN ?_ _ | refine blk_drew ?_ | refine blk_alloc ?_ _)); exact BK166.out⟩, ⟨by repeat (first | (with_reducible first | exact HB.out | apply below_alloc | apply pw_below_drewN | apply below_drew1 | refine below_set ?_ GE166.out) | exact HB.out)⟩⟩
              ·rw [if_neg c62] at H
               exact absurd H (by simp)
             ·rw [if_neg c61] at H
              exact absurd H (by simp)
            ·rw [if_neg c60] at H
             have c60b0 : decide (x13_2 < a0_0) = false := decide_eq_false c60
             clear c60
             simp only [Option.some.injEq, Prod.mk.injEq] at H
             obtain ⟨rfl, rfl⟩ := H
             have hcz66_0 : wr.cell? ⟨gb166, 0, none⟩ = some (.int .i64 a0_0) := (blk_cell BK166.out 0).trans rfl
             have hcz66_1 : wr.cell? ⟨gb166, 1, none⟩ = some (.int .i64 a0_1) := (blk_cell BK166.out 1).trans rfl
             have hcz66_2 : wr.cell? ⟨gb166, 2, none⟩ = some (.int .i64 a0_2) := (blk_cell BK166.out 2).trans rfl
             have hfz66_0 := blk_frozen BK166.out 0
             have hfz66_1 := blk_frozen BK166.out 1
             have hfz66_2 := blk_frozen BK166.out 2
             go_wp2
             go_ret2
             exact ⟨by first | rfl | (simp [errW_none, errW_some] <;> rfl) | (simp only [← hji9]; first | rfl | (simp [errW_none, errW_some] <;> rfl)) | (simp [*, errW_none, errW_some] <;> rfl), by repeat (first | (with_reducible first | exact HB.out | apply below_alloc | apply pw_below_drewN | apply below_drew1 | refine below_set ?_ GE166.out) | exact HB.out)⟩
      ·rw [if_neg c11] at H
       exact absurd H (by simp)
     ·rw [if_neg c10] at H
      exact absurd H (by simp)
    ·rw [if_neg c8] at H
     exact absurd H (by simp)
   ·rw [if_neg c7] at H
    exact absurd H (by simp)
  ·replace c6 := Bool.eq_false_iff.mpr c6
   subst c6
   have H1 : (some (0, 1)) = some (r1, r2) := by rw [if_neg (show ¬ (false = true) by decide)] at H; exact H
   clear H
   have H := H1
   clear H1
   simp only [Option.some.injEq, Prod.mk.injEq] at H
   obtain ⟨rfl, rfl⟩ := H
   go_enter Tryd.func19, Tryd.ntmps19
   go_wp2_with (first | ((with_reducible refine gate_dst (N := 2) rfl ?_); refine box_event ?hg (N := 2) ?hd (cs := #[.int .i64 a0_0, .int .i64 a0_1, .int .i64 a0_2]) (t := 38) ?hr ?_; (case hd => rfl); (case hg => rfl); (case hr => first | (go_simp; done) | (go_simp; rfl)); intro gb166 hg w67 hbox hb; have n0_ := Aside0.mk (below_step (by repeat (first | (with_reducible first | exact HB.out | apply below_alloc | apply pw_below_drewN | apply below_drew1) | exact HB.out)) hb); have n1_ := Aside0.mk (hbox); have n2_ := Aside0.mk ((by rw [hg]; exact (below_size (by repeat (first | (with_reducible first | exact HB.out | apply below_alloc | apply pw_below_drewN | apply below_drew1) | exact HB.out))) : w.heap.size ≤ gb166)); have n3_ := Aside0.mk ((by rw [hg]; exact (below_size (by repeat (first | (with_reducible first | exact HB.out | apply below_alloc | apply pw_below_drewN | apply below_drew1) | exact HB.out))) : w.heap.size ≤ gb166)); clear HB; have HB := n0_; have BK166 := n1_; have GW166 := n2_; have GE166 := n3_; clear n0_ n1_ n2_ n3_; clear hb hbox hg; have hcz68_0 : w67.cell? ⟨gb166, 0, none⟩ = some (.int .i64 a0_0) := (blk_cell BK166.out 0).trans rfl; have hcz68_1 : w67.cell? ⟨gb166, 1, none⟩ = some (.int .i64 a0_1) := (blk_cell BK166.out 1).trans rfl; have hcz68_2 : w67.cell? ⟨gb166, 2, none⟩ = some (.int .i64 a0_2) := (blk_cell BK166.out 2).trans rfl; have hfz68_0 := blk_frozen BK166.out 0; have hfz68_1 := blk_frozen BK166.out 1; have hfz68_2 := blk_frozen BK166.out 2) | ((with_reducible refine gate_callee (f := 14) rfl ?_); refine goesL_ (some 19) rfl rfl Tryd.func14 (by kernel_rfl) rfl #[.agg #[.int .i64 a0_0, .int .i64 a0_1, .int .i64 a0_2], .slice A1 l1.length c1] rfl (by (try simp only [List.map_toArray, List.map_cons, List.map_nil]); first | done | rfl | (simp only [List.length_drop, List.length_take]; rfl)) ?_; (with_reducible refine (spec_ShopOK.calls k a0_0 a0_1 a0_2 _ _ l1 false _ ?side1 ?side2 A5.out).mono ?_); (case side1 => repeat (first | exact (Kd.C_below HR1.out HB.out) | (with_reducible refine Kd.C_alloc ?_ _) | (with_reducible refine Kd.C_drewN ?_ _) | (with_reducible refine Kd.C_drew ?_))); (case side2 => exact HC1.out); rintro e w69 ⟨rfl, hb⟩; refine ⟨_, rfl, ?_⟩; have n0_ := Aside0.mk (blk_below (g := gb166) (o := .cells #[.int .i64 a0_0, .int .i64 a0_1, .int .i64 a0_2] 38 (0, 0)) (by (with_reducible repeat (first | refine blk_drewN ?_ _ | refine blk_drew ?_ | refine blk_alloc ?_ _)); exact BK166.out) hb); have n1_ := Aside0.mk (below_step (by repeat (first | (with_reducible first | exact HB.out | apply below_alloc | apply pw_below_drewN | apply below_drew1 | refine below_set ?_ GE166.out) | exact HB.out)) hb); clear BK166; clear HB; have BK166 := n0_; have HB := n1_; clear n0_ n1_; (try clear hb); (try clear hb2); (try clear hk); (try clear hi)))
   go_ret2
   exact ⟨by first | rfl | (simp [errW_none, errW_some] <;> rfl) | (simp [*, errW_none, errW_some] <;> rfl), by repeat (first | (with_reducible first | exact HB.out | apply below_alloc | apply pw_below_drewN | apply below_drew1 | refine below_set ?_ GE166.out) | exact HB.out)⟩

end Go.Proofs.YthmeijbiemkbaaaDoor.PFnExactBound
