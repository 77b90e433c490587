/- Written for this claim by a program of this session: the functions that the law reaches, each with its contract. -/
import Derived.Test.YtnbkdfnlggmopaaPFnExactSketchMovex0
import Derived.Test.YtnbkdfnlggmopaaPFnExactSketchMovex9
namespace Go.Proofs.Ytnbkdfnlggmopaa.PFnExactSketchMove
open Go.RowKit Go.Proofs.YtnbkdfnlggmopaaW.PrintWords Go.Proofs.YtnbkdfnlggmopaaW.PrintLast Go.Proofs.YtnbkdfnlggmopaaW.PrintMore
open Go.Proofs.YtnbkdfnlggmopaaW.PrintWords.Aside0 renaming mk → zA
open List renaming setIfInBounds_toArray → zB, set_cons_zero → zC, set_cons_succ → zD
open Go.Proofs.YtnbkdfnlggmopaaW.PrintWords.Kd renaming R_drewN → zE, R_alloc → zF, R_drew → zG, C_drewN → zH, C_alloc → zI, C_drew → zJ, R_reads' → zK, R_below → zL
open Go.Proofs.YtnbkdfnlggmopaaW.PrintWords renaming below_set → zS, below_size → zT, blk_below → zU
attribute [local go_sem] i64_w max2_int min2_int max_two min_two max_three min_three max_four min_four
set_option linter.unusedVariables false
set_option linter.unusedSimpArgs false

mutual
def spec_l04Least.l0 : Nat → List (S92) → List Int → Int → Int → List (S35) → Option (List Int × Bool)
 | 0, _, _, _, _, _ => none
 | k + 1, x8, x9, x10, x282000, x282001 => if x10 ≤ (wrap64 (x282000 + 1)) then (spec_l04Least.l1 k x8 x9 x10 false 0 x282000 x282001) else (some (x9, false))
def spec_l04Least.l1 : Nat → List (S92) → List Int → Int → Bool → Int → Int → List (S35) → Option (List Int × Bool)
 | 0, _, _, _, _, _, _, _ => none
 | k + 1, x8, x9, x10, x11, x12, x282000, x282001 => if x12 < (x8.length : Int) then (if 0 ≤ x12 then (if 0 ≤ ((rd_T92 x8 x12).f0) then (if ((rd_T92 x8 x12).f0) < (x9.length : Int) then (if 0 ≤ ((rd_T92 x8 x12).f1) then (if ((rd_T92 x8 x12).f1) < (x9.length : Int) then (if (wrap64 ((rd x9 ((rd_T92 x8 x12).f0)) + ((rd_T92 x8 x12).f2))) > (rd x9 ((rd_T92 x8 x12).f1)) then (spec_l04Least.l1 k x8 (x9.set (((rd_T92 x8 x12).f1) : Int).toNat (wrap64 ((rd x9 ((rd_T92 x8 x12).f0)) + ((rd_T92 x8 x12).f2)))) x10 true (wrap64 (x12 + 1)) x282000 x282001) else (spec_l04Least.l1 k x8 x9 x10 x11 (wrap64 (x12 + 1)) x282000 x282001)) else (none)) else (none)) else (none)) else (none)) else (none)) else (if x11 = true then (spec_l04Least.l0 k x8 x9 (wrap64 (x10 + 1)) x282000 x282001) else (if 0 ≤ x282000 then (if x282000 < (x9.length : Int) then (some (x9, ((rd x9 x282000) == 0))) else (none)) else (none)))
end
def spec_l04Least.f (k : Nat) (a0_0 : Int) (l0_1 : List (S35)) (l1 : List Int) (a2 : Int) : Option (List Int × Bool) := (spec_l04Steps.f k a0_0 l0_1 l1 a2).bind fun t282 => (if 0 ≤ (wrap64 (a0_0 + 1)) then (if (wrap64 (a0_0 + 1) : Int).toNat ≤ 35184372088832 then (spec_l04Least.l0 k t282 (List.replicate (wrap64 (a0_0 + 1) : Int).toNat 0) 0 a0_0 l0_1) else (none)) else (none))
theorem spec_l04Least.mono_l : ∀ k, (∀ y0 y1 y2 y3 y4, LeO (spec_l04Least.l0 k y0 y1 y2 y3 y4) (spec_l04Least.l0 (k + 1) y0 y1 y2 y3 y4)) ∧ (∀ y0 y1 y2 y3 y4 y5 y6, LeO (spec_l04Least.l1 k y0 y1 y2 y3 y4 y5 y6) (spec_l04Least.l1 (k + 1) y0 y1 y2 y3 y4 y5 y6))
 | 0 => ⟨fun _ _ _ _ _ r h => by simp [spec_l04Least.l0] at h, fun _ _ _ _ _ _ _ r h => by simp [spec_l04Least.l1] at h⟩
 | k + 1 => by
  obtain ⟨ih0, ih1⟩ := spec_l04Least.mono_l k
  refine ⟨?_, ?_⟩
  ·intro y0 y1 y2 y3 y4
   unfold spec_l04Least.l0
   repeat' first
   | (with_reducible exact ih0 _ _ _ _ _)
   | (with_reducible exact ih1 _ _ _ _ _ _ _)
   | (with_reducible exact spec_l04Steps.mono _ _ _ _ _)
   | (with_reducible exact LeO.refl _)
   | (with_reducible exact LeO.none _)
   | (with_reducible refine LeO.ite ?_ ?_)
   | (with_reducible refine LeO.bind ?_ (fun _ => ?_))
   | exact ih0 _ _ _ _ _
   | exact ih1 _ _ _ _ _ _ _
   | exact spec_l04Steps.mono _ _ _ _ _
   | exact LeO.none _
   | refine LeO.ite ?_ ?_
   | refine LeO.bind ?_ (fun _ => ?_)
  ·intro y0 y1 y2 y3 y4 y5 y6
   unfold spec_l04Least.l1
   repeat' first
   | (with_reducible exact ih0 _ _ _ _ _)
   | (with_reducible exact ih1 _ _ _ _ _ _ _)
   | (with_reducible exact spec_l04Steps.mono _ _ _ _ _)
   | (with_reducible exact LeO.refl _)
   | (with_reducible exact LeO.none _)
   | (with_reducible refine LeO.ite ?_ ?_)
   | (with_reducible refine LeO.bind ?_ (fun _ => ?_))
   | exact ih0 _ _ _ _ _
   | exact ih1 _ _ _ _ _ _ _
   | exact spec_l04Steps.mono _ _ _ _ _
   | exact LeO.none _
   | refine LeO.ite ?_ ?_
   | refine LeO.bind ?_ (fun _ => ?_)
theorem spec_l04Least.mono : ∀ a0 a1 a2 a3 k, LeO (spec_l04Least.f k a0 a1 a2 a3) (spec_l04Least.f (k + 1) a0 a1 a2 a3) := by
 intro a0 a1 a2 a3 k
 obtain ⟨ih0, ih1⟩ := spec_l04Least.mono_l k
 unfold spec_l04Least.f
 repeat' first
   | (with_reducible exact ih0 _ _ _ _ _)
   | (with_reducible exact ih1 _ _ _ _ _ _ _)
   | (with_reducible exact spec_l04Steps.mono _ _ _ _ _)
   | (with_reducible exact LeO.refl _)
   | (with_reducible exact LeO.none _)
   | (with_reducible refine LeO.ite ?_ ?_)
   | (with_reducible refine LeO.bind ?_ (fun _ => ?_))
   | exact ih0 _ _ _ _ _
   | exact ih1 _ _ _ _ _ _ _
   | exact spec_l04Steps.mono _ _ _ _ _
   | exact LeO.none _
   | refine LeO.ite ?_ ?_
   | refine LeO.bind ?_ (fun _ => ?_)
set_option maxHeartbeats 8000000 in
set_option maxRecDepth 100000 in
theorem spec_l04Least.calls (k : Nat) (a0_0 : Int) (A0_1 : Option Addr) (c0_1 : Nat) (l0_1 : List (S35)) (A1 : Option Addr) (c1 : Nat) (l1 : List Int) (a2 : Int) (r1 : List Int) (r2 : Bool) (w : World) (hr0_1 : Kd.C k35 w A0_1 l0_1.length l0_1) (hc0_1 : l0_1.length ≤ c0_1) (hr1 : Kd.C (Kd.int .i64) w A1 l1.length l1) (hc1 : l1.length ≤ c1) (h : spec_l04Least.f k a0_0 l0_1 l1 a2 = some (r1, r2)) :
  Calls Try.prog 49 #[.agg #[.int .i64 a0_0, .slice A0_1 l0_1.length c0_1], .slice A1 l1.length c1, .int .i64 a2] w fun e w' => ∃ v0_ : Value, e = .returned (.tuple #[v0_, .bool r2]) ∧ Kd.R (Kd.int .i64) 3 w' w.heap.size (fun _ => True) v0_ r1 ∧ Below w.heap.size w w' := by
 have hu25 := Try.underlying25
 have HR0_1 := zA hr0_1
 have HC0_1 := zA hc0_1
 clear hr0_1 hc0_1
 have HR1 := zA hr1
 have HC1 := zA hc1
 clear hr1 hc1
 have HB := zA (Below.refl w.heap.size w)
 have H : ((spec_l04Steps.f k a0_0 l0_1 l1 a2).bind fun t282 => (if 0 ≤ (wrap64 (a0_0 + 1)) then (if (wrap64 (a0_0 + 1) : Int).toNat ≤ 35184372088832 then (spec_l04Least.l0 k t282 (List.replicate (wrap64 (a0_0 + 1) : Int).toNat 0) 0 a0_0 l0_1) else (none)) else (none))) = some (r1, r2) := h
 clear h
 replace H := Option.bind_eq_some_iff.mp H
 obtain ⟨t282, A40, H⟩ := H
 replace H : (if 0 ≤ (wrap64 (a0_0 + 1)) then (if (wrap64 (a0_0 + 1) : Int).toNat ≤ 35184372088832 then (spec_l04Least.l0 k t282 (List.replicate (wrap64 (a0_0 + 1) : Int).toNat 0) 0 a0_0 l0_1) else (none)) else (none)) = some (r1, r2) := H
 have A4 := zA A40
 clear A40
 obtain ⟨ji5, hji5⟩ : ∃ j_ : Int, (wrap64 (a0_0 + 1)) = j_ := ⟨_, rfl⟩
 replace H : (if 0 ≤ (ji5) then (if (ji5 : Int).toNat ≤ 35184372088832 then (spec_l04Least.l0 k t282 (List.replicate (ji5 : Int).toNat 0) 0 a0_0 l0_1) else (none)) else (none)) = some (r1, r2) := by first | (rw [hji5] at H; exact H) | (simp only [hji5] at H ⊢; exact H)
 (try rw [hji5] at A4)
 have hji5w : (IntKind.i64.wrap (a0_0 + 1)) = ji5 := (i64_w _).trans hji5
 by_cases c6 : 0 ≤ (ji5)
 ·rw [if_pos c6] at H
  have c6b0 := eq_true c6
  have c6b1 : decide (0 ≤ (ji5)) = true := decide_eq_true c6
  clear c6
  by_cases c7 : (ji5 : Int).toNat ≤ 35184372088832
  ·rw [if_pos c7] at H
   have c7b0 := eq_true c7
   have c7b1 : decide ((ji5 : Int).toNat ≤ 35184372088832) = true := decide_eq_true c7
   clear c7
   obtain ⟨y285, hy285⟩ : ∃ y_ : List Int, y_ = (List.replicate (ji5 : Int).toNat 0) := ⟨_, rfl⟩
   replace H : (spec_l04Least.l0 k t282 y285 0 a0_0 l0_1) = some (r1, r2) := by first | (rw [hy285]; with_reducible exact H) | (have H2_ := (Option.bind_some _ _).symm.trans H; rw [hy285]; with_reducible exact H2_) | (have H2_ := (Option.bind_some _ _).symm.trans H; with_reducible exact H2_) | with_reducible exact H | (rw [hy285]; exact H) | exact H
   have Ny285 := zA hy285
   clear hy285
   have H' := zA H
   clear H
   go_enter Try.func49, Try.ntmps49
   go_wp2_with (first | ((with_reducible refine gate_dst (N := 3) rfl ?_); refine box_event ?hg (N := 3) ?hd (cs := #[.int .i64 a0_0, .slice A0_1 l0_1.length c0_1]) (t := 25) ?hr ?_; (case hd => rfl); (case hg => rfl); (case hr => first | (go_simp; done) | (go_simp; rfl)); intro gb281 hg w8 hbox hb; have n0_ := zA (below_step (bB_ HB) hb); have n1_ := zA (hbox); have n2_ := zA ((by rw [hg]; exact (zT (bB_ HB)) : w.heap.size ≤ gb281)); have n3_ := zA ((by rw [hg]; exact (zT (bB_ HB)) : w.heap.size ≤ gb281)); clear HB; have HB := n0_; have BK281 := n1_; have GW281 := n2_; have GE281 := n3_; clear n0_ n1_ n2_ n3_; clear hb hbox hg; have hcz9_0 : w8.cell? ⟨gb281, 0, none⟩ = some (.int .i64 a0_0) := (blk_cell BK281.out 0).trans rfl; have hcz9_1 : w8.cell? ⟨gb281, 1, none⟩ = some (.slice A0_1 l0_1.length c0_1) := (blk_cell BK281.out 1).trans rfl; have hfz9_0 := blk_frozen BK281.out 0; have hfz9_1 := blk_frozen BK281.out 1) | (go_at_call 56; (with_reducible refine (spec_l04Steps.calls k a0_0 _ _ l0_1 _ _ l1 a2 t282 _ ?side1 ?side2 ?side3 ?side4 A4.out).mono ?_); (case side1 => repeat (first | exact (Kd.C_below HR0_1.out HB.out) | (with_reducible refine zI ?_ _) | (with_reducible refine zH ?_ _) | (with_reducible refine zJ ?_))); (case side2 => exact HC0_1.out); (case side3 => repeat (first | exact (Kd.C_below HR1.out HB.out) | (with_reducible refine zI ?_ _) | (with_reducible refine zH ?_ _) | (with_reducible refine zJ ?_))); (case side4 => exact HC1.out); rintro e w10 ⟨v283, rfl, ho0, hb⟩; have n0_ := zA (Kd.R_lower ho0 (zT (bB_ HB))); have n1_ := zA (zU (g := gb281) (o := .cells #[.int .i64 a0_0, .slice A0_1 l0_1.length c0_1] 25 (0, 0)) (bA_ BK281) hb); have n2_ := zA (below_step (bB_ HB) hb); clear BK281; clear HB; have HO284 := n0_; have BK281 := n1_; have HB := n2_; clear n0_ n1_ n2_; (try clear hb); (try clear hb2); (try clear hk); (try clear hi); (try clear ho0); have hcz11_0 : w10.cell? ⟨gb281, 0, none⟩ = some (.int .i64 a0_0) := (blk_cell BK281.out 0).trans rfl; have hcz11_1 : w10.cell? ⟨gb281, 1, none⟩ = some (.slice A0_1 l0_1.length c0_1) := (blk_cell BK281.out 1).trans rfl; have hfz11_0 := blk_frozen BK281.out 0; have hfz11_1 := blk_frozen BK281.out 1) | ((with_reducible refine gate_dst (N := 21) rfl ?_); refine Kd.R_make (Kd.int .i64) _ 3 rfl (N := 21) rfl 28 _ _ rfl ji5 rfl rfl Try.underlying28 (.int .i64 0) 8 info3 rfl (by decide) (by omega) 0 (ok := fun _ => True) (okp := fun _ => True) rfl (fun _ hk => hk) trivial (of_decide_eq_true (by first | (with_reducible assumption) | assumption)) (Nat.le_trans (Nat.mul_le_mul_right _ (of_decide_eq_true (by first | (with_reducible assumption) | assumption) : ji5.toNat ≤ 35184372088832)) (by omega)) (Below.refl _ _) (Nat.le_refl _) ?_; intro v286 w12 ho13 hb hg_ hnew_; clear hg_ hnew_; (first | rw [← Ny285.out] at ho13 | (simp only [Int.reduceToNat] at ho13; rw [← Ny285.out] at ho13)); have n0_ := zA (zL (bC_ HO284) hb); have n1_ := zA (Kd.R_lower ho13 (zT (bB_ HB))); have n2_ := zA (zU (g := gb281) (o := .cells #[.int .i64 a0_0, .slice A0_1 l0_1.length c0_1] 25 (0, 0)) (bA_ BK281) hb); have n3_ := zA (below_step (bB_ HB) hb); clear HO284; clear BK281; clear HB; have HO284 := n0_; have HO287 := n1_; have BK281 := n2_; have HB := n3_; clear n0_ n1_ n2_ n3_; clear hb ho13))
   repeat (go_quiet (first | ((with_reducible refine gate_dst (N := 3) rfl ?_); refine box_event ?hg (N := 3) ?hd (cs := #[.int .i64 a0_0, .slice A0_1 l0_1.length c0_1]) (t := 25) ?hr ?_; (case hd => rfl); (case hg => rfl); (case hr => first | (go_simp; done) | (go_simp; rfl)); intro gb281 hg w8 hbox hb; have n0_ := zA (below_step (bB_ HB) hb); have n1_ := zA (hbox); have n2_ := zA ((by rw [hg]; exact (zT (bB_ HB)) : w.heap.size ≤ gb281)); have n3_ := zA ((by rw [hg]; exact (zT (bB_ HB)) : w.heap.size ≤ gb281)); clear HB; have HB := n0_; have BK281 := n1_; have GW281 := n2_; have GE281 := n3_; clear n0_ n1_ n2_ n3_; clear hb hbox hg; have hcz9_0 : w8.cell? ⟨gb281, 0, none⟩ = some (.int .i64 a0_0) := (blk_cell BK281.out 0).trans rfl; have hcz9_1 : w8.cell? ⟨gb281, 1, none⟩ = some (.slice A0_1 l0_1.length c0_1) := (blk_cell BK281.out 1).trans rfl; have hfz9_0 := blk_frozen BK281.out 0; have hfz9_1 := blk_frozen BK281.out 1) | (go_at_call 56; (with_reducible refine (spec_l04Steps.calls k a0_0 _ _ l0_1 _ _ l1 a2 t282 _ ?side1 ?side2 ?side3 ?side4 A4.out).mono ?_); (case side1 => repeat (first | exact (Kd.C_below HR0_1.out HB.out) | (with_reducible refine zI ?_ _) | (with_reducible refine zH ?_ _) | (with_reducible refine zJ ?_))); (case side2 => exact HC0_1.out); (case side3 => repeat (first | exact (Kd.C_below HR1.out HB.out) | (with_reducible refine zI ?_ _) | (with_reducible refine zH ?_ _) | (with_reducible refine zJ ?_))); (case side4 => exact HC1.out); rintro e w10 ⟨v283, rfl, ho0, hb⟩; have n0_ := zA (Kd.R_lower ho0 (zT (bB_ HB))); have n1_ := zA (zU (g := gb281) (o := .cells #[.int .i64 a0_0, .slice A0_1 l0_1.length c0_1] 25 (0, 0)) (bA_ BK281) hb); have n2_ := zA (below_step (bB_ HB) hb); clear BK281; clear HB; have HO284 := n0_; have BK281 := n1_; have HB := n2_; clear n0_ n1_ n2_; (try clear hb); (try clear hb2); (try clear hk); (try clear hi); (try clear ho0); have hcz11_0 : w10.cell? ⟨gb281, 0, none⟩ = some (.int .i64 a0_0) := (blk_cell BK281.out 0).trans rfl; have hcz11_1 : w10.cell? ⟨gb281, 1, none⟩ = some (.slice A0_1 l0_1.length c0_1) := (blk_cell BK281.out 1).trans rfl; have hfz11_0 := blk_frozen BK281.out 0; have hfz11_1 := blk_frozen BK281.out 1) | ((with_reducible refine gate_dst (N := 21) rfl ?_); refine Kd.R_make (Kd.int .i64) _ 3 rfl (N := 21) rfl 28 _ _ rfl ji5 rfl rfl Try.underlying28 (.int .i64 0) 8 info3 rfl (by decide) (by omega) 0 (ok := fun _ => True) (okp := fun _ => True) rfl (fun _ hk => hk) trivial (of_decide_eq_true (by first | (with_reducible assumption) | assumption)) (Nat.le_trans (Nat.mul_le_mul_right _ (of_decide_eq_true (by first | (with_reducible assumption) | assumption) : ji5.toNat ≤ 35184372088832)) (by omega)) (Below.refl _ _) (Nat.le_refl _) ?_; intro v286 w12 ho13 hb hg_ hnew_; clear hg_ hnew_; (first | rw [← Ny285.out] at ho13 | (simp only [Int.reduceToNat] at ho13; rw [← Ny285.out] at ho13)); have n0_ := zA (zL (bC_ HO284) hb); have n1_ := zA (Kd.R_lower ho13 (zT (bB_ HB))); have n2_ := zA (zU (g := gb281) (o := .cells #[.int .i64 a0_0, .slice A0_1 l0_1.length c0_1] 25 (0, 0)) (bA_ BK281) hb); have n3_ := zA (below_step (bB_ HB) hb); clear HO284; clear BK281; clear HB; have HO284 := n0_; have HO287 := n1_; have BK281 := n2_; have HB := n3_; clear n0_ n1_ n2_ n3_; clear hb ho13)); try go_wp2_with (first | ((with_reducible refine gate_dst (N := 3) rfl ?_); refine box_event ?hg (N := 3) ?hd (cs := #[.int .i64 a0_0, .slice A0_1 l0_1.length c0_1]) (t := 25) ?hr ?_; (case hd => rfl); (case hg => rfl); (case hr => first | (go_simp; done) | (go_simp; rfl)); intro gb281 hg w8 hbox hb; have n0_ := zA (below_step (bB_ HB) hb); have n1_ := zA (hbox); have n2_ := zA ((by rw [hg]; exact (zT (bB_ HB)) : w.heap.size ≤ gb281)); have n3_ := zA ((by rw [hg]; exact (zT (bB_ HB)) : w.heap.size ≤ gb281)); clear HB; have HB := n0_; have BK281 := n1_; have GW281 := n2_; have GE281 := n3_; clear n0_ n1_ n2_ n3_; clear hb hbox hg; have hcz9_0 : w8.cell? ⟨gb281, 0, none⟩ = some (.int .i64 a0_0) := (blk_cell BK281.out 0).trans rfl; have hcz9_1 : w8.cell? ⟨gb281, 1, none⟩ = some (.slice A0_1 l0_1.length c0_1) := (blk_cell BK281.out 1).trans rfl; have hfz9_0 := blk_frozen BK281.out 0; have hfz9_1 := blk_frozen BK281.out 1) | (go_at_call 56; (with_reducible refine (spec_l04Steps.calls k a0_0 _ _ l0_1 _ _ l1 a2 t282 _ ?side1 ?side2 ?side3 ?side4 A4.out).mono ?_); (case side1 => repeat (first | exact (Kd.C_below HR0_1.out HB.out) | (with_reducible refine zI ?_ _) | (with_reducible refine zH ?_ _) | (with_reducible refine zJ ?_))); (case side2 => exact HC0_1.out); (case side3 => repeat (first | exact (Kd.C_below HR1.out HB.out) | (with_reducible refine zI ?_ _) | (with_reducible refine zH ?_ _) | (with_reducible refine zJ ?_))); (case side4 => exact HC1.out); rintro e w10 ⟨v283, rfl, ho0, hb⟩; have n0_ := zA (Kd.R_lower ho0 (zT (bB_ HB))); have n1_ := zA (zU (g := gb281) (o := .cells #[.int .i64 a0_0, .slice A0_1 l0_1.length c0_1] 25 (0, 0)) (bA_ BK281) hb); have n2_ := zA (below_step (bB_ HB) hb); clear BK281; clear HB; have HO284 := n0_; have BK281 := n1_; have HB := n2_; clear n0_ n1_ n2_; (try clear hb); (try clear hb2); (try clear hk); (try clear hi); (try clear ho0); have hcz11_0 : w10.cell? ⟨gb281, 0, none⟩ = some (.int .i64 a0_0) := (blk_cell BK281.out 0).trans rfl; have hcz11_1 : w10.cell? ⟨gb281, 1, none⟩ = some (.slice A0_1 l0_1.length c0_1) := (blk_cell BK281.out 1).trans rfl; have hfz11_0 := blk_frozen BK281.out 0; have hfz11_1 := blk_frozen BK281.out 1) | ((with_reducible refine gate_dst (N := 21) rfl ?_); refine Kd.R_make (Kd.int .i64) _ 3 rfl (N := 21) rfl 28 _ _ rfl ji5 rfl rfl Try.underlying28 (.int .i64 0) 8 info3 rfl (by decide) (by omega) 0 (ok := fun _ => True) (okp := fun _ => True) rfl (fun _ hk => hk) trivial (of_decide_eq_true (by first | (with_reducible assumption) | assumption)) (Nat.le_trans (Nat.mul_le_mul_right _ (of_decide_eq_true (by first | (with_reducible assumption) | assumption) : ji5.toNat ≤ 35184372088832)) (by omega)) (Below.refl _ _) (Nat.le_refl _) ?_; intro v286 w12 ho13 hb hg_ hnew_; clear hg_ hnew_; (first | rw [← Ny285.out] at ho13 | (simp only [Int.reduceToNat] at ho13; rw [← Ny285.out] at ho13)); have n0_ := zA (zL (bC_ HO284) hb); have n1_ := zA (Kd.R_lower ho13 (zT (bB_ HB))); have n2_ := zA (zU (g := gb281) (o := .cells #[.int .i64 a0_0, .slice A0_1 l0_1.length c0_1] 25 (0, 0)) (bA_ BK281) hb); have n3_ := zA (below_step (bB_ HB) hb); clear HO284; clear BK281; clear HB; have HO284 := n0_; have HO287 := n1_; have BK281 := n2_; have HB := n3_; clear n0_ n1_ n2_ n3_; clear hb ho13)))
   go_loopg [10] k (fun kq v10 w' => ∃ (x9_1 : List Int) (x10_1 : Int), v10 = .int .i64 x10_1 ∧ Aside0 (spec_l04Least.l0 kq t282 x9_1 x10_1 a0_0 l0_1 = some (r1, r2)) ∧ Aside0 (kq ≤ k) ∧ Aside0 (Kd.R k92 92 w' w.heap.size (fun _ => True) v283 t282) ∧ Aside0 (Kd.R (Kd.int .i64) 3 w' w.heap.size (fun _ => True) v286 x9_1) ∧ Aside0 (w'.heap[gb281]? = some (.cells #[.int .i64 a0_0, (.slice A0_1 l0_1.length c0_1)] 25 (0, 0))) ∧ Aside0 (Below w.heap.size w w'))
   case atStart => exact ⟨(y285), (0), (by first | rfl | (simp; done) | (simp [*]; done)), H', ⟨Nat.le_refl _⟩, ⟨bC_ HO284⟩, ⟨bC_ HO287⟩, ⟨bA_ BK281⟩, ⟨bB_ HB⟩⟩
   case round =>
    clear H'
    try clear c1
    try clear p2
    try clear c4
    try clear c6
    try clear c6b0
    try clear c6b1
    try clear p6
    try clear c7
    try clear c7b0
    try clear c7b1
    try clear hcz11_0
    try clear hcz11_1
    try clear hcz9_0
    try clear hcz9_1
    try clear hfz11_0
    try clear hfz11_1
    try clear hfz9_0
    try clear hfz9_1
    obtain ⟨x9_1, x10_1, rfl, HA, HK1, HO_8, HO_9, BK281, HB⟩ := hrel
    cases gk with
    | zero => exact absurd HA.out (by simp [spec_l04Least.l0])
    | succ k1 =>
     have H := HA.out
     clear HA
     simp only [spec_l04Least.l0] at H
     by_cases c14 : x10_1 ≤ (wrap64 (a0_0 + 1))
     ·rw [if_pos c14] at H
      have c14b0 : decide (x10_1 ≤ (wrap64 (a0_0 + 1))) = true := decide_eq_true c14
      (try rw [hji5] at c14b0)
      clear c14
      have H' := zA H
      clear H
      have hcz15_0 : wr.cell? ⟨gb281, 0, none⟩ = some (.int .i64 a0_0) := (blk_cell BK281.out 0).trans rfl
      have hcz15_1 : wr.cell? ⟨gb281, 1, none⟩ = some (.slice A0_1 l0_1.length c0_1) := (blk_cell BK281.out 1).trans rfl
      have hfz15_0 := blk_frozen BK281.out 0
      have hfz15_1 := blk_frozen BK281.out 1
      go_wp2
      repeat (go_quiet (fail); try go_wp2)
      go_loopg [11, 12] k1 (fun kq v11 v12 w' => ∃ (x9_2 : List Int) (x11_2 : Bool) (x12_2 : Int), v11 = .bool x11_2 ∧ v12 = .int .i64 x12_2 ∧ Aside0 (spec_l04Least.l1 kq t282 x9_2 x10_1 x11_2 x12_2 a0_0 l0_1 = some (r1, r2)) ∧ Aside0 (kq ≤ k1) ∧ Aside0 (Kd.R k92 92 w' w.heap.size (fun _ => True) v283 t282) ∧ Aside0 (Kd.R (Kd.int .i64) 3 w' w.heap.size (fun _ => True) v286 x9_2) ∧ Aside0 (w'.heap[gb281]? = some (.cells #[.int .i64 a0_0, (.slice A0_1 l0_1.length c0_1)] 25 (0, 0))) ∧ Aside0 (Below w.heap.size w w'))
      case atStart => exact ⟨(x9_1), (false), (0), (by first | rfl | (simp; done) | (simp [*]; done)), (by first | rfl | (simp; done) | (simp [*]; done)), H', ⟨Nat.le_refl _⟩, ⟨bC_ HO_8⟩, ⟨bC_ HO_9⟩, ⟨bA_ BK281⟩, ⟨bB_ HB⟩⟩
      case round =>
       clear H'
       try clear c1
       try clear p2
       try clear c4
       try clear c6
       try clear c6b0
       try clear c6b1
       try clear p6
       try clear c7
       try clear c7b0
       try clear c7b1
       try clear c14
       try clear c14b0
       try clear hcz11_0
       try clear hcz11_1
       try clear hcz15_0
       try clear hcz15_1
       try clear hcz9_0
       try clear hcz9_1
       try clear hfz11_0
       try clear hfz11_1
       try clear hfz15_0
       try clear hfz15_1
       try clear hfz9_0
       try clear hfz9_1
       try clear p2
       try clear p6
       obtain ⟨x9_2, x11_2, x12_2, rfl, rfl, HA, HK2, HO_8, HO_9, BK281, HB⟩ := hrel
       cases gk with
       | zero => exact absurd HA.out (by simp [spec_l04Least.l1])
       | succ k2 =>
        have H := HA.out
        clear HA
        simp only [spec_l04Least.l1] at H
        by_cases c16 : x12_2 < (t282.length : Int)
        ·rw [if_pos c16] at H
         have c16b0 : decide (x12_2 < (t282.length : Int)) = true := decide_eq_true c16
         clear c16
         by_cases c17 : 0 ≤ x12_2
         ·rw [if_pos c17] at H
          have c17b0 : decide (0 ≤ x12_2) = true := decide_eq_true c17
          clear c17
          by_cases c18 : 0 ≤ ((rd_T92 t282 x12_2).f0)
          ·rw [if_pos c18] at H
           have c18b0 : decide (0 ≤ ((rd_T92 t282 x12_2).f0)) = true := decide_eq_true c18
           clear c18
           by_cases c19 : ((rd_T92 t282 x12_2).f0) < (x9_2.length : Int)
           ·rw [if_pos c19] at H
            have c19b0 : decide (((rd_T92 t282 x12_2).f0) < (x9_2.length : Int)) = true := decide_eq_true c19
            clear c19
            by_cases c20 : 0 ≤ ((rd_T92 t282 x12_2).f1)
            ·rw [if_pos c20] at H
             have c20b0 : decide (0 ≤ ((rd_T92 t282 x12_2).f1)) = true := decide_eq_true c20
             clear c20
             by_cases c21 : ((rd_T92 t282 x12_2).f1) < (x9_2.length : Int)
             ·rw [if_pos c21] at H
              have c21b0 : decide (((rd_T92 t282 x12_2).f1) < (x9_2.length : Int)) = true := decide_eq_true c21
              clear c21
              by_cases c22 : (wrap64 ((rd x9_2 ((rd_T92 t282 x12_2).f0)) + ((rd_T92 t282 x12_2).f2))) > (rd x9_2 ((rd_T92 t282 x12_2).f1))
              ·rw [if_pos c22] at H
               have c22b0 : decide ((rd x9_2 ((rd_T92 t282 x12_2).f1)) < (wrap64 ((rd x9_2 ((rd_T92 t282 x12_2).f0)) + ((rd_T92 t282 x12_2).f2)))) = true := decide_eq_true c22
               clear c22
               obtain ⟨y294, hy294⟩ : ∃ y_ : List Int, y_ = (x9_2.set (((rd_T92 t282 x12_2).f1) : Int).toNat (wrap64 ((rd x9_2 ((rd_T92 t282 x12_2).f0)) + ((rd_T92 t282 x12_2).f2)))) := ⟨_, rfl⟩
               replace H : (spec_l04Least.l1 k2 t282 y294 x10_1 true (wrap64 (x12_2 + 1)) a0_0 l0_1) = some (r1, r2) := by first | (rw [hy294]; with_reducible exact H) | (have H2_ := (Option.bind_some _ _).symm.trans H; rw [hy294]; with_reducible exact H2_) | (have H2_ := (Option.bind_some _ _).symm.trans H; with_reducible exact H2_) | with_reducible exact H | (rw [hy294]; exact H) | exact H
               have Ny294 := zA hy294
               clear hy294
               have H' := zA H
               clear H
               obtain ⟨Ao24, co24, eo24⟩ := Kd.R_slice HO_8.out
               subst eo24
               have p288 : 0 ≤ (x12_2 : Int) := of_decide_eq_true (by first | (with_reducible assumption) | assumption)
               have q288 : x12_2 < (t282.length : Int) := of_decide_eq_true (by first | (with_reducible assumption) | assumption)
               obtain ⟨ad288, e288, hx288_0, hx288_1, hx288_2⟩ := at_T92 (zK HO_8.out).2.2 x12_2 p288 q288
               cases e288
               replace p288 := eq_true p288
               replace q288 := eq_true q288
               obtain ⟨Ao25, co25, eo25⟩ := Kd.R_slice HO_9.out
               subst eo25
               have p289 : 0 ≤ (((rd_T92 t282 x12_2).f0) : Int) := of_decide_eq_true (by first | (with_reducible assumption) | assumption)
               have q289 : ((rd_T92 t282 x12_2).f0) < (x9_2.length : Int) := of_decide_eq_true (by first | (with_reducible assumption) | assumption)
               obtain ⟨ad289, e289, hx289_0⟩ := Kd.at_int (zK HO_9.out).2.2 ((rd_T92 t282 x12_2).f0) p289 q289
               cases e289
               replace p289 := eq_true p289
               replace q289 := eq_true q289
               have p290 : 0 ≤ (x12_2 : Int) := of_decide_eq_true (by first | (with_reducible assumption) | assumption)
               have q290 : x12_2 < (t282.length : Int) := of_decide_eq_true (by first | (with_reducible assumption) | assumption)
               obtain ⟨ad290, e290, hx290_0, hx290_1, hx290_2⟩ := at_T92 (zK HO_8.out).2.2 x12_2 p290 q290
               obtain rfl : ad288 = ad290 := (by injection e290)
               replace p290 := eq_true p290
               replace q290 := eq_true q290
               have p291 : 0 ≤ (x12_2 : Int) := of_decide_eq_true (by first | (with_reducible assumption) | assumption)
               have q291 : x12_2 < (t282.length : Int) := of_decide_eq_true (by first | (with_reducible assumption) | assumption)
               obtain ⟨ad291, e291, hx291_0, hx291_1, hx291_2⟩ := at_T92 (zK HO_8.out).2.2 x12_2 p291 q291
               obtain rfl : ad288 = ad291 := (by injection e291)
               replace p291 := eq_true p291
               replace q291 := eq_true q291
               have p292 : 0 ≤ (((rd_T92 t282 x12_2).f1) : Int) := of_decide_eq_true (by first | (with_reducible assumption) | assumption)
               have q292 : ((rd_T92 t282 x12_2).f1) < (x9_2.length : Int) := of_decide_eq_true (by first | (with_reducible assumption) | assumption)
               obtain ⟨ad292, e292, hx292_0⟩ := Kd.at_int (zK HO_9.out).2.2 ((rd_T92 t282 x12_2).f1) p292 q292
               obtain rfl : ad289 = ad292 := (by injection e292)
               replace p292 := eq_true p292
               replace q292 := eq_true q292
               have p293 : 0 ≤ (x12_2 : Int) := of_decide_eq_true (by first | (with_reducible assumption) | assumption)
               have q293 : x12_2 < (t282.length : Int) := of_decide_eq_true (by first | (with_reducible assumption) | assumption)
               obtain ⟨ad293, e293, hx293_0, hx293_1, hx293_2⟩ := at_T92 (zK HO_8.out).2.2 x12_2 p293 q293
               obtain rfl : ad288 = ad293 := (by injection e293)
               replace p293 := eq_true p293
               replace q293 := eq_true q293
               have p23 : 0 ≤ (((rd_T92 t282 x12_2).f1) : Int) := of_decide_eq_true (by first | (with_reducible assumption) | assumption)
               have q23 : (((rd_T92 t282 x12_2).f1) : Int) < ((x9_2.length : Int) : Int) := of_decide_eq_true (by first | (with_reducible assumption) | assumption)
               obtain ⟨go23, co23, eo23, gb23, gl23, cl23, HG23⟩ := Kd.R_form HO_9.out (by omega)
               (first | cases eo23 | (injection eo23 with ea_ en_ ec_; (first | subst ea_ | (injection ea_ with ea_; subst ea_)); subst ec_; clear en_))
               have GB23 := zA gb23
               have GG23 := zA HG23
               clear gb23 gl23 HG23
               (first | simp only [add_plain] at hx289_0 | skip)
               (first | simp only [add_plain] at hx292_0 | skip)
               obtain ⟨hx23_0, hf23_0⟩ := Kd.R_celln 0 HO_9.out (((rd_T92 t282 x12_2).f1) : Int) p23 q23
               replace p23 := eq_true p23
               replace q23 := eq_true q23
               have HP26 := Kd.R_putg HO_9.out (((rd_T92 t282 x12_2).f1) : Int) (wrap64 ((rd x9_2 ((rd_T92 t282 x12_2).f0)) + ((rd_T92 t282 x12_2).f2)))
               go_wp2_with (first | ((with_reducible refine gate_store (t := 3) (p := 66) rfl ?_); (try (rw [drewN_self wr]; generalize hq_ : World.drewN wr _ = wr; have n0_ := zA (Kd.R_at hq_ HO_8.out); have n1_ := zA (Kd.R_at hq_ HO_9.out); have n2_ := zA (blk_at hq_ BK281.out); have n3_ := zA (below_at hq_ HB.out); clear hq_ HO_8 HO_9 BK281 HB; have HO_8 := n0_; have HO_9 := n1_; have BK281 := n2_; have HB := n3_; clear n0_ n1_ n2_ n3_; (try (obtain ⟨hx23_0, hf23_0⟩ := Kd.R_celln 0 HO_9.out (((rd_T92 t282 x12_2).f1) : Int) (of_eq_true p23) (of_eq_true q23))); (try (have HP26 := Kd.R_putg HO_9.out (((rd_T92 t282 x12_2).f1) : Int) (wrap64 ((rd x9_2 ((rd_T92 t282 x12_2).f0)) + ((rd_T92 t282 x12_2).f2))))))); refine store_event (t := 3) (p := 66) (v := ?vo_w27) (w1 := (wr.setCell ⟨go23, (((rd_T92 t282 x12_2).f1) : Int).toNat, none⟩ (.int .i64 (wrap64 ((rd x9_2 ((rd_T92 t282 x12_2).f0)) + ((rd_T92 t282 x12_2).f2)))))) ?hg ?ho ?hn ?hr ?_; (case ho => rfl); (case hg => rfl); (case hn => rfl); (case hr => first | (go_simp; done) | (go_simp; rfl)); intro w27 hw; have hg : wr.grownBy w27 (some go23) := (by rw [hw]; exact HP26.2); have hp_ : Kd.R (Kd.int .i64) 3 w27 w.heap.size (fun _ => True) (.slice (some ⟨go23, 0, none⟩) x9_2.length co25) y294 := (by rw [hw, Ny294.out]; exact HP26.1); clear HP26; have n0_ := zA (Kd.R_over' (v := (.slice (some ⟨go23, 0, none⟩) x9_2.length co25)) (bC_ HO_8) (Kd.R_typed HO_9.out) (by decide) hg); have n1_ := zA (hp_); have n2_ := zA (blk_grown (g := gb281) (o := .cells #[.int .i64 a0_0, .slice A0_1 l0_1.length c0_1] 25 (0, 0)) (bA_ BK281) hg (Kd.R_ne HO_9.out BK281.out (by decide))); have n3_ := zA ((by rw [hw]; exact zS (HB.out) GB23.out : Below w.heap.size w w27)); clear HO_8; clear HO_9; clear BK281; clear HB; have HO_8 := n0_; have HO_9 := n1_; have BK281 := n2_; have HB := n3_; clear n0_ n1_ n2_ n3_; clear hg hw hp_))
               repeat (go_quiet (first | ((with_reducible refine gate_store (t := 3) (p := 66) rfl ?_); (try (rw [drewN_self wr]; generalize hq_ : World.drewN wr _ = wr; have n0_ := zA (Kd.R_at hq_ HO_8.out); have n1_ := zA (Kd.R_at hq_ HO_9.out); have n2_ := zA (blk_at hq_ BK281.out); have n3_ := zA (below_at hq_ HB.out); clear hq_ HO_8 HO_9 BK281 HB; have HO_8 := n0_; have HO_9 := n1_; have BK281 := n2_; have HB := n3_; clear n0_ n1_ n2_ n3_; (try (obtain ⟨hx23_0, hf23_0⟩ := Kd.R_celln 0 HO_9.out (((rd_T92 t282 x12_2).f1) : Int) (of_eq_true p23) (of_eq_true q23))); (try (have HP26 := Kd.R_putg HO_9.out (((rd_T92 t282 x12_2).f1) : Int) (wrap64 ((rd x9_2 ((rd_T92 t282 x12_2).f0)) + ((rd_T92 t282 x12_2).f2))))))); refine store_event (t := 3) (p := 66) (v := ?vo_w27) (w1 := (wr.setCell ⟨go23, (((rd_T92 t282 x12_2).f1) : Int).toNat, none⟩ (.int .i64 (wrap64 ((rd x9_2 ((rd_T92 t282 x12_2).f0)) + ((rd_T92 t282 x12_2).f2)))))) ?hg ?ho ?hn ?hr ?_; (case ho => rfl); (case hg => rfl); (case hn => rfl); (case hr => first | (go_simp; done) | (go_simp; rfl)); intro w27 hw; have hg : wr.grownBy w27 (some go23) := (by rw [hw]; exact HP26.2); have hp_ : Kd.R (Kd.int .i64) 3 w27 w.heap.size (fun _ => True) (.slice (some ⟨go23, 0, none⟩) x9_2.length co25) y294 := (by rw [hw, Ny294.out]; exact HP26.1); clear HP26; have n0_ := zA (Kd.R_over' (v := (.slice (some ⟨go23, 0, none⟩) x9_2.length co25)) (bC_ HO_8) (Kd.R_typed HO_9.out) (by decide) hg); have n1_ := zA (hp_); have n2_ := zA (blk_grown (g := gb281) (o := .cells #[.int .i64 a0_0, .slice A0_1 l0_1.length c0_1] 25 (0, 0)) (bA_ BK281) hg (Kd.R_ne HO_9.out BK281.out (by decide))); have n3_ := zA ((by rw [hw]; exact zS (HB.out) GB23.out : Below w.heap.size w w27)); clear HO_8; clear HO_9; clear BK281; clear HB; have HO_8 := n0_; have HO_9 := n1_; have BK281 := n2_; have HB := n3_; clear n0_ n1_ n2_ n3_; clear hg hw hp_)); try go_wp2_with (first | ((with_reducible refine gate_store (t := 3) (p := 66) rfl ?_); (try (rw [drewN_self wr]; generalize hq_ : World.drewN wr _ = wr; have n0_ := zA (Kd.R_at hq_ HO_8.out); have n1_ := zA (Kd.R_at hq_ HO_9.out); have n2_ := zA (blk_at hq_ BK281.out); have n3_ := zA (below_at hq_ HB.out); clear hq_ HO_8 HO_9 BK281 HB; have HO_8 := n0_; have HO_9 := n1_; have BK281 := n2_; have HB := n3_; clear n0_ n1_ n2_ n3_; (try (obtain ⟨hx23_0, hf23_0⟩ := Kd.R_celln 0 HO_9.out (((rd_T92 t282 x12_2).f1) : Int) (of_eq_true p23) (of_eq_true q23))); (try (have HP26 := Kd.R_putg HO_9.out (((rd_T92 t282 x12_2).f1) : Int) (wrap64 ((rd x9_2 ((rd_T92 t282 x12_2).f0)) + ((rd_T92 t282 x12_2).f2))))))); refine store_event (t := 3) (p := 66) (v := ?vo_w27) (w1 := (wr.setCell ⟨go23, (((rd_T92 t282 x12_2).f1) : Int).toNat, none⟩ (.int .i64 (wrap64 ((rd x9_2 ((rd_T92 t282 x12_2).f0)) + ((rd_T92 t282 x12_2).f2)))))) ?hg ?ho ?hn ?hr ?_; (case ho => rfl); (case hg => rfl); (case hn => rfl); (case hr => first | (go_simp; done) | (go_simp; rfl)); intro w27 hw; have hg : wr.grownBy w27 (some go23) := (by rw [hw]; exact HP26.2); have hp_ : Kd.R (Kd.int .i64) 3 w27 w.heap.size (fun _ => True) (.slice (some ⟨go23, 0, none⟩) x9_2.length co25) y294 := (by rw [hw, Ny294.out]; exact HP26.1); clear HP26; have n0_ := zA (Kd.R_over' (v := (.slice (some ⟨go23, 0, none⟩) x9_2.length co25)) (bC_ HO_8) (Kd.R_typed HO_9.out) (by decide) hg); have n1_ := zA (hp_); have n2_ := zA (blk_grown (g := gb281) (o := .cells #[.int .i64 a0_0, .slice A0_1 l0_1.length c0_1] 25 (0, 0)) (bA_ BK281) hg (Kd.R_ne HO_9.out BK281.out (by decide))); have n3_ := zA ((by rw [hw]; exact zS (HB.out) GB23.out : Below w.heap.size w w27)); clear HO_8; clear HO_9; clear BK281; clear HB; have HO_8 := n0_; have HO_9 := n1_; have BK281 := n2_; have HB := n3_; clear n0_ n1_ n2_ n3_; clear hg hw hp_)))
               go_roundg k2
               case measure => have := HK1.out; have := HK2.out; omega
               case rel => exact ⟨(y294), (true), (wrap64 (x12_2 + 1)), (by first | rfl | (simp; done) | (simp [*]; done)), (by first | rfl | (simp; done) | (simp [*]; done)), H', ⟨by have := HK1.out; have := HK2.out; omega⟩, ⟨bC_ HO_8⟩, ⟨bC_ HO_9⟩, ⟨bA_ BK281⟩, ⟨bB_ HB⟩⟩
              ·rw [if_neg c22] at H
               have c22b0 : decide ((rd x9_2 ((rd_T92 t282 x12_2).f1)) < (wrap64 ((rd x9_2 ((rd_T92 t282 x12_2).f0)) + ((rd_T92 t282 x12_2).f2)))) = false := decide_eq_false c22
               clear c22
               have H' := zA H
               clear H
               obtain ⟨Ao28, co28, eo28⟩ := Kd.R_slice HO_8.out
               subst eo28
               have p288 : 0 ≤ (x12_2 : Int) := of_decide_eq_true (by first | (with_reducible assumption) | assumption)
               have q288 : x12_2 < (t282.length : Int) := of_decide_eq_true (by first | (with_reducible assumption) | assumption)
               obtain ⟨ad288, e288, hx288_0, hx288_1, hx288_2⟩ := at_T92 (zK HO_8.out).2.2 x12_2 p288 q288
               cases e288
               replace p288 := eq_true p288
               replace q288 := eq_true q288
               obtain ⟨Ao29, co29, eo29⟩ := Kd.R_slice HO_9.out
               subst eo29
               have p289 : 0 ≤ (((rd_T92 t282 x12_2).f0) : Int) := of_decide_eq_true (by first | (with_reducible assumption) | assumption)
               have q289 : ((rd_T92 t282 x12_2).f0) < (x9_2.length : Int) := of_decide_eq_true (by first | (with_reducible assumption) | assumption)
               obtain ⟨ad289, e289, hx289_0⟩ := Kd.at_int (zK HO_9.out).2.2 ((rd_T92 t282 x12_2).f0) p289 q289
               cases e289
               replace p289 := eq_true p289
               replace q289 := eq_true q289
               have p290 : 0 ≤ (x12_2 : Int) := of_decide_eq_true (by first | (with_reducible assumption) | assumption)
               have q290 : x12_2 < (t282.length : Int) := of_decide_eq_true (by first | (with_reducible assumption) | assumption)
               obtain ⟨ad290, e290, hx290_0, hx290_1, hx290_2⟩ := at_T92 (zK HO_8.out).2.2 x12_2 p290 q290
               obtain rfl : ad288 = ad290 := (by injection e290)
               replace p290 := eq_true p290
               replace q290 := eq_true q290
               have p291 : 0 ≤ (x12_2 : Int) := of_decide_eq_true (by first | (with_reducible assumption) | assumption)
               have q291 : x12_2 < (t282.length : Int) := of_decide_eq_true (by first | (with_reducible assumption) | assumption)
               obtain ⟨ad291, e291, hx291_0, hx291_1, hx291_2⟩ := at_T92 (zK HO_8.out).2.2 x12_2 p291 q291
               obtain rfl : ad288 = ad291 := (by injection e291)
               replace p291 := eq_true p291
               replace q291 := eq_true q291
               have p292 : 0 ≤ (((rd_T92 t282 x12_2).f1) : Int) := of_decide_eq_true (by first | (with_reducible assumption) | assumption)
               have q292 : ((rd_T92 t282 x12_2).f1) < (x9_2.length : Int) := of_decide_eq_true (by first | (with_reducible assumption) | assumption)
               obtain ⟨ad292, e292, hx292_0⟩ := Kd.at_int (zK HO_9.out).2.2 ((rd_T92 t282 x12_2).f1) p292 q292
               obtain rfl : ad289 = ad292 := (by injection e292)
               replace p292 := eq_true p292
               replace q292 := eq_true q292
               go_wp2
               repeat (go_quiet (fail); try go_wp2)
               go_roundg k2
               case measure => have := HK1.out; have := HK2.out; omega
               case rel => exact ⟨(x9_2), (x11_2), (wrap64 (x12_2 + 1)), (by first | rfl | (simp; done) | (simp [*]; done)), (by first | rfl | (simp; done) | (simp [*]; done)), H', ⟨by have := HK1.out; have := HK2.out; omega⟩, ⟨bC_ HO_8⟩, ⟨bC_ HO_9⟩, ⟨bA_ BK281⟩, ⟨bB_ HB⟩⟩
             ·rw [if_neg c21] at H
              exact absurd H (by simp)
            ·rw [if_neg c20] at H
             exact absurd H (by simp)
           ·rw [if_neg c19] at H
            exact absurd H (by simp)
          ·rw [if_neg c18] at H
           exact absurd H (by simp)
         ·rw [if_neg c17] at H
          exact absurd H (by simp)
        ·rw [if_neg c16] at H
         have c16b0 : decide (x12_2 < (t282.length : Int)) = false := decide_eq_false c16
         clear c16
         by_cases c30 : x11_2 = true
         ·subst c30
          have H1 : (spec_l04Least.l0 k2 t282 x9_2 (wrap64 (x10_1 + 1)) a0_0 l0_1) = some (r1, r2) := by rw [if_pos rfl] at H; exact H
          clear H
          have H := H1
          clear H1
          have H' := zA H
          clear H
          obtain ⟨Ao31, co31, eo31⟩ := Kd.R_slice HO_8.out
          subst eo31
          go_wp2
          repeat (go_quiet (fail); try go_wp2)
          go_roundg k2
          case measure => have := HK1.out; have := HK2.out; omega
          case rel => exact ⟨(x9_2), (wrap64 (x10_1 + 1)), (by first | rfl | (simp; done) | (simp [*]; done)), H', ⟨by have := HK1.out; have := HK2.out; omega⟩, ⟨bC_ HO_8⟩, ⟨bC_ HO_9⟩, ⟨bA_ BK281⟩, ⟨bB_ HB⟩⟩
         ·replace c30 := Bool.eq_false_iff.mpr c30
          subst c30
          have H1 : (if 0 ≤ a0_0 then (if a0_0 < (x9_2.length : Int) then (some (x9_2, ((rd x9_2 a0_0) == 0))) else (none)) else (none)) = some (r1, r2) := by rw [if_neg (show ¬ (false = true) by decide)] at H; exact H
          clear H
          have H := H1
          clear H1
          by_cases c32 : 0 ≤ a0_0
          ·rw [if_pos c32] at H
           have c32b0 : decide (0 ≤ a0_0) = true := decide_eq_true c32
           clear c32
           by_cases c33 : a0_0 < (x9_2.length : Int)
           ·rw [if_pos c33] at H
            have c33b0 : decide (a0_0 < (x9_2.length : Int)) = true := decide_eq_true c33
            clear c33
            simp only [Option.some.injEq, Prod.mk.injEq] at H
            obtain ⟨rfl, rfl⟩ := H
            obtain ⟨Ao34, co34, eo34⟩ := Kd.R_slice HO_8.out
            subst eo34
            have hcz35_0 : wr.cell? ⟨gb281, 0, none⟩ = some (.int .i64 a0_0) := (blk_cell BK281.out 0).trans rfl
            have hcz35_1 : wr.cell? ⟨gb281, 1, none⟩ = some (.slice A0_1 l0_1.length c0_1) := (blk_cell BK281.out 1).trans rfl
            have hfz35_0 := blk_frozen BK281.out 0
            have hfz35_1 := blk_frozen BK281.out 1
            obtain ⟨Ao36, co36, eo36⟩ := Kd.R_slice HO_9.out
            subst eo36
            have p295 : 0 ≤ (a0_0 : Int) := of_decide_eq_true (by first | (with_reducible assumption) | assumption)
            have q295 : a0_0 < (x9_2.length : Int) := of_decide_eq_true (by first | (with_reducible assumption) | assumption)
            obtain ⟨ad295, e295, hx295_0⟩ := Kd.at_int (zK HO_9.out).2.2 a0_0 p295 q295
            cases e295
            replace p295 := eq_true p295
            replace q295 := eq_true q295
            go_wp2
            repeat (go_quiet (fail); try go_wp2)
            go_ret2
            exact ⟨_, by first | rfl | (simp [errW_none, errW_some] <;> rfl) | (simp only [← hji5]; first | rfl | (simp [errW_none, errW_some] <;> rfl)) | (simp [*, errW_none, errW_some] <;> rfl), bC_ HO_9, bB_ HB⟩
           ·rw [if_neg c33] at H
            exact absurd H (by simp)
          ·rw [if_neg c32] at H
           exact absurd H (by simp)
     ·rw [if_neg c14] at H
      have c14b0 : decide (x10_1 ≤ (wrap64 (a0_0 + 1))) = false := decide_eq_false c14
      (try rw [hji5] at c14b0)
      clear c14
      simp only [Option.some.injEq, Prod.mk.injEq] at H
      obtain ⟨rfl, rfl⟩ := H
      have hcz37_0 : wr.cell? ⟨gb281, 0, none⟩ = some (.int .i64 a0_0) := (blk_cell BK281.out 0).trans rfl
      have hcz37_1 : wr.cell? ⟨gb281, 1, none⟩ = some (.slice A0_1 l0_1.length c0_1) := (blk_cell BK281.out 1).trans rfl
      have hfz37_0 := blk_frozen BK281.out 0
      have hfz37_1 := blk_frozen BK281.out 1
      go_wp2
      repeat (go_quiet (fail); try go_wp2)
      go_ret2
      exact ⟨_, by first | rfl | (simp [errW_none, errW_some] <;> rfl) | (simp only [← hji5]; first | rfl | (simp [errW_none, errW_some] <;> rfl)) | (simp [*, errW_none, errW_some] <;> rfl), bC_ HO_9, bB_ HB⟩
  ·rw [if_neg c7] at H
   exact absurd H (by simp)
 ·rw [if_neg c6] at H
  exact absurd H (by simp)

def spec_l04Keeps.l0 : Nat → List Int → Bool → List Int → Bool → List (S48) → Int → Int → List (S35) → Option ((List (S48)) × Bool)
 | 0, _, _, _, _, _, _, _, _ => none
 | k + 1, x6, x7, x8, x9, x10, x11, x297000, x297001 => if x11 < x297000 then (if 0 ≤ x11 then (if x11 < (x6.length : Int) then (if x11 < (x8.length : Int) then (if x10.length < 8796093022208 then (spec_l04Keeps.l0 k x6 x7 x8 x9 (x10 ++ [(⟨rd x6 x11, rd x8 x11⟩ : S48)]) (wrap64 (x11 + 1)) x297000 x297001) else (none)) else (none)) else (none)) else (none)) else (if x7 = true then (some (x10, x9)) else (some (x10, false)))
def spec_l04Keeps.f (k : Nat) (a0_0 : Int) (l0_1 : List (S35)) (l1 : List Int) : Option ((List (S48)) × Bool) := (spec_l04Least.f k a0_0 l0_1 l1 0).bind fun bt297 => ((spec_l04Least.f k a0_0 l0_1 l1 1).bind fun bt301 => (spec_l04Keeps.l0 k bt297.1 bt297.2 bt301.1 bt301.2 (([] : List (S48))) 0 a0_0 l0_1))
theorem spec_l04Keeps.mono_l : ∀ k, (∀ y0 y1 y2 y3 y4 y5 y6 y7, LeO (spec_l04Keeps.l0 k y0 y1 y2 y3 y4 y5 y6 y7) (spec_l04Keeps.l0 (k + 1) y0 y1 y2 y3 y4 y5 y6 y7))
 | 0 => fun _ _ _ _ _ _ _ _ r h => by simp [spec_l04Keeps.l0] at h
 | k + 1 => by
  have ih0 := spec_l04Keeps.mono_l k
  ·intro y0 y1 y2 y3 y4 y5 y6 y7
   unfold spec_l04Keeps.l0
   repeat' first
   | (with_reducible exact ih0 _ _ _ _ _ _ _ _)
   | (with_reducible exact spec_l04Least.mono _ _ _ _ _)
   | (with_reducible exact LeO.refl _)
   | (with_reducible exact LeO.none _)
   | (with_reducible refine LeO.ite ?_ ?_)
   | (with_reducible refine LeO.bind ?_ (fun _ => ?_))
   | exact ih0 _ _ _ _ _ _ _ _
   | exact spec_l04Least.mono _ _ _ _ _
   | exact LeO.none _
   | refine LeO.ite ?_ ?_
   | refine LeO.bind ?_ (fun _ => ?_)
theorem spec_l04Keeps.mono : ∀ a0 a1 a2 k, LeO (spec_l04Keeps.f k a0 a1 a2) (spec_l04Keeps.f (k + 1) a0 a1 a2) := by
 intro a0 a1 a2 k
 have ih0 := spec_l04Keeps.mono_l k
 unfold spec_l04Keeps.f
 repeat' first
   | (with_reducible exact ih0 _ _ _ _ _ _ _ _)
   | (with_reducible exact spec_l04Least.mono _ _ _ _ _)
   | (with_reducible exact LeO.refl _)
   | (with_reducible exact LeO.none _)
   | (with_reducible refine LeO.ite ?_ ?_)
   | (with_reducible refine LeO.bind ?_ (fun _ => ?_))
   | exact ih0 _ _ _ _ _ _ _ _
   | exact spec_l04Least.mono _ _ _ _ _
   | exact LeO.none _
   | refine LeO.ite ?_ ?_
   | refine LeO.bind ?_ (fun _ => ?_)
def spec_l04Keeps.T7 : Bool × List (List Nat × List Nat) := (true, [([], []), ([], []), ([], []), ([1, 2], [1, 2]), ([3], [3]), ([], []), ([], []), ([5, 6], [5, 6]), ([7], [7]), ([4, 8], [4, 8]), ([9], [9]), ([0, 10], [0, 10]), ([11, 11, 0, 1, 2, 3, 4, 5, 6, 7, 8, 9, 10, 11], [0, 11])])
def spec_l04Keeps.B7 : List Nat := [0, 0, 0, 6, 14, 0, 0, 96, 224, 510, 1022, 2047, 4095]
theorem spec_l04Keeps.tab7 : rtab .any (opsOf Try.f35 7) = spec_l04Keeps.T7 := by kernel_rfl
theorem spec_l04Keeps.bits7 : waitsOk spec_l04Keeps.T7.2 spec_l04Keeps.B7 = true := by kernel_rfl
set_option maxHeartbeats 8000000 in
set_option maxRecDepth 100000 in
theorem spec_l04Keeps.calls (k : Nat) (a0_0 : Int) (A0_1 : Option Addr) (c0_1 : Nat) (l0_1 : List (S35)) (A1 : Option Addr) (c1 : Nat) (l1 : List Int) (r1 : List (S48)) (r2 : Bool) (w : World) (hr0_1 : Kd.C k35 w A0_1 l0_1.length l0_1) (hc0_1 : l0_1.length ≤ c0_1) (hr1 : Kd.C (Kd.int .i64) w A1 l1.length l1) (hc1 : l1.length ≤ c1) (h : spec_l04Keeps.f k a0_0 l0_1 l1 = some (r1, r2)) :
  Calls Try.prog 35 #[.agg #[.int .i64 a0_0, .slice A0_1 l0_1.length c0_1], .slice A1 l1.length c1] w fun e w' => ∃ v0_ : Value, e = .returned (.tuple #[v0_, .bool r2]) ∧ Kd.R k48 48 w' w.heap.size (fun _ => True) v0_ r1 ∧ Below w.heap.size w w' := by
 have hu25 := Try.underlying25
 have hu48 := Try.underlying48
 have HR0_1 := zA hr0_1
 have HC0_1 := zA hc0_1
 clear hr0_1 hc0_1
 have HR1 := zA hr1
 have HC1 := zA hc1
 clear hr1 hc1
 have HB := zA (Below.refl w.heap.size w)
 have H : ((spec_l04Least.f k a0_0 l0_1 l1 0).bind fun bt297 => ((spec_l04Least.f k a0_0 l0_1 l1 1).bind fun bt301 => (spec_l04Keeps.l0 k bt297.1 bt297.2 bt301.1 bt301.2 (([] : List (S48))) 0 a0_0 l0_1))) = some (r1, r2) := h
 clear h
 replace H := Option.bind_eq_some_iff.mp H
 obtain ⟨⟨t297, t300⟩, A30, H⟩ := H
 replace H : ((spec_l04Least.f k a0_0 l0_1 l1 1).bind fun bt301 => (spec_l04Keeps.l0 k t297 t300 bt301.1 bt301.2 (([] : List (S48))) 0 a0_0 l0_1)) = some (r1, r2) := H
 have A3 := zA A30
 clear A30
 replace H := Option.bind_eq_some_iff.mp H
 obtain ⟨⟨t301, t304⟩, A40, H⟩ := H
 replace H : (spec_l04Keeps.l0 k t297 t300 t301 t304 (([] : List (S48))) 0 a0_0 l0_1) = some (r1, r2) := H
 have A4 := zA A40
 clear A40
 obtain ⟨y305, hy305⟩ : ∃ y_ : List (S48), y_ = (([] : List (S48))) := ⟨_, rfl⟩
 replace H : (spec_l04Keeps.l0 k t297 t300 t301 t304 y305 0 a0_0 l0_1) = some (r1, r2) := by first | (rw [hy305]; with_reducible exact H) | (have H2_ := (Option.bind_some _ _).symm.trans H; rw [hy305]; with_reducible exact H2_) | (have H2_ := (Option.bind_some _ _).symm.trans H; with_reducible exact H2_) | with_reducible exact H | (rw [hy305]; exact H) | exact H
 have Ny305 := zA hy305
 clear hy305
 have H' := zA H
 clear H
 go_enter Try.func35, Try.ntmps35
 go_wp2_with (first | ((with_reducible refine gate_dst (N := 2) rfl ?_); refine box_event ?hg (N := 2) ?hd (cs := #[.int .i64 a0_0, .slice A0_1 l0_1.length c0_1]) (t := 25) ?hr ?_; (case hd => rfl); (case hg => rfl); (case hr => first | (go_simp; done) | (go_simp; rfl)); intro gb296 hg w5 hbox hb; have n0_ := zA (below_step (bB_ HB) hb); have n1_ := zA (hbox); have n2_ := zA ((by rw [hg]; exact (zT (bB_ HB)) : w.heap.size ≤ gb296)); have n3_ := zA ((by rw [hg]; exact (zT (bB_ HB)) : w.heap.size ≤ gb296)); clear HB; have HB := n0_; have BK296 := n1_; have GW296 := n2_; have GE296 := n3_; clear n0_ n1_ n2_ n3_; clear hb hbox hg; have hcz6_0 : w5.cell? ⟨gb296, 0, none⟩ = some (.int .i64 a0_0) := (blk_cell BK296.out 0).trans rfl; have hcz6_1 : w5.cell? ⟨gb296, 1, none⟩ = some (.slice A0_1 l0_1.length c0_1) := (blk_cell BK296.out 1).trans rfl; have hfz6_0 := blk_frozen BK296.out 0; have hfz6_1 := blk_frozen BK296.out 1) | ((with_reducible refine gate_callee (f := 49) rfl ?_); refine goesL_ (some 15) rfl rfl Try.func49 (by kernel_rfl) rfl #[.agg #[.int .i64 a0_0, .slice A0_1 l0_1.length c0_1], .slice A1 l1.length c1, .int .i64 0] rfl (by (try simp only [List.map_toArray, List.map_cons, List.map_nil]); first | done | rfl | (simp only [List.length_drop, List.length_take]; rfl)) ?_; (with_reducible refine (spec_l04Least.calls k a0_0 _ _ l0_1 _ _ l1 0 t297 t300 _ ?side1 ?side2 ?side3 ?side4 A3.out).mono ?_); (case side1 => repeat (first | exact (Kd.C_below HR0_1.out HB.out) | (with_reducible refine zI ?_ _) | (with_reducible refine zH ?_ _) | (with_reducible refine zJ ?_))); (case side2 => exact HC0_1.out); (case side3 => repeat (first | exact (Kd.C_below HR1.out HB.out) | (with_reducible refine zI ?_ _) | (with_reducible refine zH ?_ _) | (with_reducible refine zJ ?_))); (case side4 => exact HC1.out); rintro e w7 ⟨v298, rfl, ho0, hb⟩; refine ⟨_, rfl, ?_⟩; have n0_ := zA (Kd.R_lower ho0 (zT (bB_ HB))); have n1_ := zA (zU (g := gb296) (o := .cells #[.int .i64 a0_0, .slice A0_1 l0_1.length c0_1] 25 (0, 0)) (bA_ BK296) hb); have n2_ := zA (below_step (bB_ HB) hb); clear BK296; clear HB; have HO299 := n0_; have BK296 := n1_; have HB := n2_; clear n0_ n1_ n2_; (try clear hb); (try clear hb2); (try clear hk); (try clear hi); (try clear ho0); have hcz8_0 : w7.cell? ⟨gb296, 0, none⟩ = some (.int .i64 a0_0) := (blk_cell BK296.out 0).trans rfl; have hcz8_1 : w7.cell? ⟨gb296, 1, none⟩ = some (.slice A0_1 l0_1.length c0_1) := (blk_cell BK296.out 1).trans rfl; have hfz8_0 := blk_frozen BK296.out 0; have hfz8_1 := blk_frozen BK296.out 1) | ((with_reducible refine gate_callee (f := 49) rfl ?_); refine goesL_ (some 21) rfl rfl Try.func49 (by kernel_rfl) rfl #[.agg #[.int .i64 a0_0, .slice A0_1 l0_1.length c0_1], .slice A1 l1.length c1, .int .i64 1] rfl (by (try simp only [List.map_toArray, List.map_cons, List.map_nil]); first | done | rfl | (simp only [List.length_drop, List.length_take]; rfl)) ?_; (with_reducible refine (spec_l04Least.calls k a0_0 _ _ l0_1 _ _ l1 1 t301 t304 _ ?side1 ?side2 ?side3 ?side4 A4.out).mono ?_); (case side1 => repeat (first | exact (Kd.C_below HR0_1.out HB.out) | (with_reducible refine zI ?_ _) | (with_reducible refine zH ?_ _) | (with_reducible refine zJ ?_))); (case side2 => exact HC0_1.out); (case side3 => repeat (first | exact (Kd.C_below HR1.out HB.out) | (with_reducible refine zI ?_ _) | (with_reducible refine zH ?_ _) | (with_reducible refine zJ ?_))); (case side4 => exact HC1.out); rintro e w9 ⟨v302, rfl, ho0, hb⟩; refine ⟨_, rfl, ?_⟩; have n0_ := zA (Kd.R_elder' (bC_ HO299) (Kd.R_base ho0) hb); have n1_ := zA (Kd.R_lower (Kd.R_new' ho0 (Kd.R_lt (bC_ HO299))) (zT (bB_ HB))); have n2_ := zA (zU (g := gb296) (o := .cells #[.int .i64 a0_0, .slice A0_1 l0_1.length c0_1] 25 (0, 0)) (bA_ BK296) hb); have n3_ := zA (below_step (bB_ HB) hb); clear HO299; clear BK296; clear HB; have HO299 := n0_; have HO303 := n1_; have BK296 := n2_; have HB := n3_; clear n0_ n1_ n2_ n3_; (try clear hb); (try clear hb2); (try clear hk); (try clear hi); (try clear ho0)) | ((with_reducible refine gate_dst (N := 24) rfl ?_); refine Kd.R_lit k48 _ 48 ?hg (N := 24) ?hd (xs := ([] : List (S48))) (inner := []) (ok := fun _ => True) (okp := fun _ => True) ?hr ?hp (fun _ hk => hk) trivial (Below.refl _ _) (Nat.le_refl _) (by simp) ?_; (case hd => rfl); (case hg => rfl); (case hr => first | (go_simp; done) | (go_simp; rfl)); (case hp => exact (Reps.none _ _)); intro v306 w10 ho11 hb hg_ hnew_; clear hg_ hnew_; (first | rw [← Ny305.out] at ho11 | (simp only [Int.reduceToNat] at ho11; rw [← Ny305.out] at ho11)); have n0_ := zA (zL (bC_ HO299) hb); have n1_ := zA (zL (bC_ HO303) hb); have n2_ := zA (Kd.R_lower ho11 (zT (bB_ HB))); have n3_ := zA (zU (g := gb296) (o := .cells #[.int .i64 a0_0, .slice A0_1 l0_1.length c0_1] 25 (0, 0)) (bA_ BK296) hb); have n4_ := zA (below_step (bB_ HB) hb); clear HO299; clear HO303; clear BK296; clear HB; have HO299 := n0_; have HO303 := n1_; have HO307 := n2_; have BK296 := n3_; have HB := n4_; clear n0_ n1_ n2_ n3_ n4_; clear hb ho11))
 go_loopg [10, 11] k (fun kq v10 v11 w' => ∃ (x10_1 : List (S48)) (x11_1 : Int), v11 = .int .i64 x11_1 ∧ Aside0 (spec_l04Keeps.l0 kq t297 t300 t301 t304 x10_1 x11_1 a0_0 l0_1 = some (r1, r2)) ∧ Aside0 (kq ≤ k) ∧ Aside0 (Kd.R (Kd.int .i64) 3 w' w.heap.size (fun k_ => some k_ ≠ (v302 : Value).ownBlock) v298 t297) ∧ Aside0 (Kd.R (Kd.int .i64) 3 w' w.heap.size (fun k_ => some k_ ≠ (v298 : Value).ownBlock) v302 t301) ∧ Aside0 (Kd.R k48 48 w' w.heap.size (fun _ => True) v10 x10_1) ∧ Aside0 (w'.heap[gb296]? = some (.cells #[.int .i64 a0_0, (.slice A0_1 l0_1.length c0_1)] 25 (0, 0))) ∧ Aside0 (Below w.heap.size w w'))
 case atStart => exact ⟨(y305), (0), (by first | rfl | (simp; done) | (simp [*]; done)), H', ⟨Nat.le_refl _⟩, ⟨by (with_reducible repeat (first | apply zF | apply zE | apply zG)); exact Kd.R_mono HO299.out (fun _ hk => hk.2)⟩, ⟨by (with_reducible repeat (first | apply zF | apply zE | apply zG)); exact Kd.R_mono HO303.out (fun _ hk => hk.2)⟩, ⟨bC_ HO307⟩, ⟨bA_ BK296⟩, ⟨bB_ HB⟩⟩
 case round =>
  clear H'
  try clear c1
  try clear p2
  try clear c3
  try clear c4
  try clear hcz6_0
  try clear hcz6_1
  try clear hcz8_0
  try clear hcz8_1
  try clear hfz6_0
  try clear hfz6_1
  try clear hfz8_0
  try clear hfz8_1
  obtain ⟨x10_1, x11_1, rfl, HA, HK1, HO_6, HO_8, HO_10, BK296, HB⟩ := hrel
  cases gk with
  | zero => exact absurd HA.out (by simp [spec_l04Keeps.l0])
  | succ k1 =>
   have H := HA.out
   clear HA
   simp only [spec_l04Keeps.l0] at H
   by_cases c12 : x11_1 < a0_0
   ·rw [if_pos c12] at H
    have c12b0 : decide (x11_1 < a0_0) = true := decide_eq_true c12
    clear c12
    by_cases c13 : 0 ≤ x11_1
    ·rw [if_pos c13] at H
     have c13b0 : decide (0 ≤ x11_1) = true := decide_eq_true c13
     clear c13
     by_cases c14 : x11_1 < (t297.length : Int)
     ·rw [if_pos c14] at H
      have c14b0 : decide (x11_1 < (t297.length : Int)) = true := decide_eq_true c14
      clear c14
      by_cases c15 : x11_1 < (t301.length : Int)
      ·rw [if_pos c15] at H
       have c15b0 : decide (x11_1 < (t301.length : Int)) = true := decide_eq_true c15
       clear c15
       by_cases c16 : x10_1.length < 8796093022208
       ·rw [if_pos c16] at H
        have LMc16 := zA c16
        clear c16
        obtain ⟨y310, hy310⟩ : ∃ y_ : List (S48), y_ = (x10_1 ++ [(⟨rd t297 x11_1, rd t301 x11_1⟩ : S48)]) := ⟨_, rfl⟩
        replace H : (spec_l04Keeps.l0 k1 t297 t300 t301 t304 y310 (wrap64 (x11_1 + 1)) a0_0 l0_1) = some (r1, r2) := by first | (rw [hy310]; with_reducible exact H) | (have H2_ := (Option.bind_some _ _).symm.trans H; rw [hy310]; with_reducible exact H2_) | (have H2_ := (Option.bind_some _ _).symm.trans H; with_reducible exact H2_) | with_reducible exact H | (rw [hy310]; exact H) | exact H
        have Ny310 := zA hy310
        clear hy310
        have H' := zA H
        clear H
        have hcz17_0 : wr.cell? ⟨gb296, 0, none⟩ = some (.int .i64 a0_0) := (blk_cell BK296.out 0).trans rfl
        have hcz17_1 : wr.cell? ⟨gb296, 1, none⟩ = some (.slice A0_1 l0_1.length c0_1) := (blk_cell BK296.out 1).trans rfl
        have hfz17_0 := blk_frozen BK296.out 0
        have hfz17_1 := blk_frozen BK296.out 1
        try go_wp2
        have n0_ := zA (zG HO_6.out)
        have n1_ := zA (zG HO_8.out)
        have n2_ := zA (zG HO_10.out)
        have n3_ := zA (blk_drew BK296.out)
        have n4_ := zA (below_drew1 HB.out)
        clear HO_6
        clear HO_8
        clear HO_10
        clear BK296
        clear HB
        have HO_6 := n0_
        have HO_8 := n1_
        have HO_10 := n2_
        have BK296 := n3_
        have HB := n4_
        clear n0_ n1_ n2_ n3_ n4_
        obtain ⟨Ao19, co19, eo19⟩ := Kd.R_slice HO_6.out
        (first | subst eo19 | (injection eo19 with f1_ f2_ f3_; have f4_ := f1_.symm; have f5_ := f3_.symm; clear f1_ f2_ f3_; subst f4_; subst f5_))
        have p308 : 0 ≤ (x11_1 : Int) := of_decide_eq_true (by first | (with_reducible assumption) | assumption)
        have q308 : x11_1 < (t297.length : Int) := of_decide_eq_true (by first | (with_reducible assumption) | assumption)
        obtain ⟨ad308, e308, hx308_0⟩ := Kd.at_int (zK HO_6.out).2.2 x11_1 p308 q308
        cases e308
        replace p308 := eq_true p308
        replace q308 := eq_true q308
        obtain ⟨Ao20, co20, eo20⟩ := Kd.R_slice HO_8.out
        (first | subst eo20 | (injection eo20 with f1_ f2_ f3_; have f4_ := f1_.symm; have f5_ := f3_.symm; clear f1_ f2_ f3_; subst f4_; subst f5_))
        have p309 : 0 ≤ (x11_1 : Int) := of_decide_eq_true (by first | (with_reducible assumption) | assumption)
        have q309 : x11_1 < (t301.length : Int) := of_decide_eq_true (by first | (with_reducible assumption) | assumption)
        obtain ⟨ad309, e309, hx309_0⟩ := Kd.at_int (zK HO_8.out).2.2 x11_1 p309 q309
        cases e309
        replace p309 := eq_true p309
        replace q309 := eq_true q309
        refine start_ (n := 13) (S := fun w' => w'.cell? (ad308.add (x11_1).toNat) = some (.int .i64 (rd t297 x11_1)) ∧ w'.cell? (ad309.add (x11_1).toNat) = some (.int .i64 (rd t301 x11_1))) (ds := [10, 11]) #[false, false, false, false, false, false, false, false, false, false, false, false, false] (by kernel_rfl) rfl rfl ⟨hx308_0, hx309_0⟩ (fun hHeld => ?_); refine with_tabW spec_l04Keeps.tab7 spec_l04Keeps.bits7 (fun HT_ HW_ => ?_)
        generalize wr.drew = w18 at HO_6 HO_8 HO_10 BK296 HB hx308_0 hx309_0 hHeld ⊢
        refine pure_ (i := 0) (N := some 31) (v := ?_) (a' := ?_) #[true, false, false, false, false, false, false, false, false, false, false, false, false] rfl rfl (any_of HT_.out (by kernel_rfl)) (fun _ _ _ h => h) (Or.inl ⟨by rfl, ?_⟩) ?_ ?_
        rotate_left
        ·intro w'
         go_simp
         with_reducible rfl
        rotate_left
        ·simp only [Act.put, zB, zC, zD, i64_w, i32_w]
         rfl
        refine pure_ (i := 1) (N := some 32) (v := ?_) (a' := ?_) #[true, true, false, false, false, false, false, false, false, false, false, false, false] rfl rfl (any_of HT_.out (by kernel_rfl)) (fun _ _ _ h => h) (Or.inl ⟨by rfl, ?_⟩) ?_ ?_
        rotate_left
        ·intro w'
         go_simp
         with_reducible rfl
        rotate_left
        ·simp only [Act.put, zB, zC, zD, i64_w, i32_w]
         rfl
        refine pure_ (i := 2) (N := some 33) (v := ?_) (a' := ?_) #[true, true, true, false, false, false, false, false, false, false, false, false, false] rfl rfl (any_of HT_.out (by kernel_rfl)) (fun _ _ _ h => h) (Or.inl ⟨by rfl, ?_⟩) ?_ ?_
        rotate_left
        ·intro w'
         go_simp
         with_reducible rfl
        rotate_left
        ·simp only [Act.put, zB, zC, zD, i64_w, i32_w]
         rfl
        refine pure_ (i := 3) (N := some 34) (v := ?_) (a' := ?_) #[true, true, true, true, false, false, false, false, false, false, false, false, false] rfl rfl (any_of HT_.out (by kernel_rfl)) (fun _ _ _ h => h) (Or.inl ⟨by rfl, ?_⟩) ?_ ?_
        rotate_left
        ·intro w'
         go_simp
         with_reducible rfl
        rotate_left
        ·simp only [Act.put, zB, zC, zD, i64_w, i32_w]
         rfl
        refine pure_ (i := 5) (N := some 36) (v := ?_) (a' := ?_) #[true, true, true, true, false, true, false, false, false, false, false, false, false] rfl rfl (any_of HT_.out (by kernel_rfl)) (fun _ _ _ h => h) (Or.inl ⟨by rfl, ?_⟩) ?_ ?_
        rotate_left
        ·intro w'
         go_simp
         with_reducible rfl
        rotate_left
        ·simp only [Act.put, zB, zC, zD, i64_w, i32_w]
         rfl
        refine pure_ (i := 6) (N := some 37) (v := ?_) (a' := ?_) #[true, true, true, true, false, true, true, false, false, false, false, false, false] rfl rfl (any_of HT_.out (by kernel_rfl)) (fun _ _ _ h => h) (Or.inl ⟨by rfl, ?_⟩) ?_ ?_
        rotate_left
        ·intro w'
         go_simp
         with_reducible rfl
        rotate_left
        ·simp only [Act.put, zB, zC, zD, i64_w, i32_w]
         rfl
        refine pure_ (i := 7) (N := some 38) (v := ?_) (a' := ?_) #[true, true, true, true, false, true, true, true, false, false, false, false, false] rfl rfl (any_of HT_.out (by kernel_rfl)) (fun _ _ _ h => h) (Or.inl ⟨by rfl, ?_⟩) ?_ ?_
        rotate_left
        ·intro w'
         go_simp
         with_reducible rfl
        rotate_left
        ·simp only [Act.put, zB, zC, zD, i64_w, i32_w]
         rfl
        refine take_ (i := 4) (N := some 35) (v := ?_) (a' := ?_) #[true, true, true, true, true, true, true, true, false, false, false, false, false] rfl rfl (take_ofW HT_.out HW_.out (by kernel_rfl)) (fun _ _ _ h => h) (Or.inl ⟨by rfl, ?_⟩) hHeld ?_ ?_
        rotate_left
        ·rintro w' ⟨s0, s1⟩
         go_simp
         with_reducible rfl
        rotate_left
        ·simp only [Act.put, zB, zC, zD, i64_w, i32_w]
         rfl
        refine take_ (i := 8) (N := some 39) (v := ?_) (a' := ?_) #[true, true, true, true, true, true, true, true, true, false, false, false, false] rfl rfl (take_ofW HT_.out HW_.out (by kernel_rfl)) (fun _ _ _ h => h) (Or.inl ⟨by rfl, ?_⟩) hHeld ?_ ?_
        rotate_left
        ·rintro w' ⟨s0, s1⟩
         go_simp
         with_reducible rfl
        rotate_left
        ·simp only [Act.put, zB, zC, zD, i64_w, i32_w]
         rfl
        refine pure_ (i := 9) (N := some 40) (v := ?_) (a' := ?_) #[true, true, true, true, true, true, true, true, true, true, false, false, false] rfl rfl (any_of HT_.out (by kernel_rfl)) (fun _ _ _ h => h) (Or.inl ⟨by rfl, ?_⟩) ?_ ?_
        rotate_left
        ·intro w'
         go_simp
         with_reducible rfl
        rotate_left
        ·simp only [Act.put, zB, zC, zD, i64_w, i32_w]
         rfl
        refine last_ (i := 10) (N := some 41) #[true, true, true, true, true, true, true, true, true, true, true, false, false] rfl rfl (one_of HT_.out (by kernel_rfl)) (by decide) (fun K hK => ?_)
        refine value_ (w1 := ?_) (v := ?_) (by rfl) rfl ?_ ?_
        rotate_left 2
        ·go_simp
         constructor
         ·rfl
         ·rfl
        refine hK.out _ _ ?_
        clear hK K
        refine norm_ (a' := ?_) ?_ ?_
        rotate_left
        ·show Act.put _ (some 41) _ = _
         simp only [Act.put, zB, zC, zD, i64_w, i32_w]
         rfl
        refine last_ (i := 11) (N := some 42) #[true, true, true, true, true, true, true, true, true, true, true, true, false] rfl rfl (one_of HT_.out (by kernel_rfl)) (by decide) (fun K hK => ?_)
        refine Kd.R_append_step k48 (w0 := w) w.heap.size (by rfl) (.tmp 31) (.tmp 41) 27 48 (.agg #[(.int .i64 0), (.int .i64 0)]) 16 rfl Try.underlying27 info48 rfl (by decide) (by omega) u10 x10_1 (⟨rd t297 x11_1, rd t301 x11_1⟩ : S48) [.int .i64 (rd t297 x11_1), .int .i64 (rd t301 x11_1)] (fun _ => True) (fun _ => False) rfl rfl ?aP (fun _ hk => hk.elim) ?aF ?aO ?aB ?aS ?aL ?_
        (case aP => exact k48_mkM _ _ _ (⟨rd t297 x11_1, rd t301 x11_1⟩ : S48))
        (case aB => exact (bB_ HB))
        (case aF => exact (fun _ _ => trivial))
        (case aO => exact (bC_ HO_10))
        (case aS => exact (zT (bB_ HB)))
        (case aL => have := LMc16.out; omega)
        intro v311 w21 ho hb hg hat
        rw [← Ny310.out] at ho
        have n0_ := zA (Kd.R_over' (bC_ HO_6) (Kd.R_typed (bC_ HO_10)) (by decide) hg)
        have n1_ := zA (Kd.R_over' (bC_ HO_8) (Kd.R_typed (bC_ HO_10)) (by decide) hg)
        have n2_ := zA (blk_grown (g := gb296) (o := .cells #[.int .i64 a0_0, .slice A0_1 l0_1.length c0_1] 25 (0, 0)) (bA_ BK296) hg (Kd.R_ne HO_10.out BK296.out (by decide)))
        have n3_ := zA (hb)
        have n4_ := zA (ho)
        clear HO_6
        clear HO_8
        clear BK296
        clear HB
        clear HO_10
        have HO_6 := n0_
        have HO_8 := n1_
        have BK296 := n2_
        have HB := n3_
        have HO312 := n4_
        clear n0_ n1_ n2_ n3_ n4_
        clear ho hb hg hat
        refine hK.out _ _ ?_
        clear hK K
        refine norm_ (a' := ?_) ?_ ?_
        rotate_left
        ·show Act.put _ (some 42) _ = _
         simp only [Act.put, zB, zC, zD, i64_w, i32_w]
         rfl
        refine pure_ (i := 12) (N := some 10) (v := ?_) (a' := ?_) #[true, true, true, true, true, true, true, true, true, true, true, true, true] rfl rfl (any_of HT_.out (by kernel_rfl)) (fun _ _ _ h => h) (Or.inl ⟨by rfl, ?_⟩) ?_ ?_
        rotate_left
        ·intro w'
         go_simp
         with_reducible rfl
        rotate_left
        ·simp only [Act.put, zB, zC, zD, i64_w, i32_w]
         rfl
        refine done_ (done_of HT_.out (by kernel_rfl)) ?_
        try go_wp2
        go_roundg k1
        case measure => have := HK1.out; omega
        case rel => exact ⟨(y310), (wrap64 (x11_1 + 1)), (by first | rfl | (simp; done) | (simp [*]; done)), H', ⟨by have := HK1.out; omega⟩, ⟨bC_ HO_6⟩, ⟨bC_ HO_8⟩, ⟨bC_ HO312⟩, ⟨bA_ BK296⟩, ⟨bB_ HB⟩⟩
       ·rw [if_neg c16] at H
        exact absurd H (by simp)
      ·rw [if_neg c15] at H
       exact absurd H (by simp)
     ·rw [if_neg c14] at H
      exact absurd H (by simp)
    ·rw [if_neg c13] at H
     exact absurd H (by simp)
   ·rw [if_neg c12] at H
    have c12b0 : decide (x11_1 < a0_0) = false := decide_eq_false c12
    clear c12
    by_cases c22 : t300 = true
    ·subst c22
     have H1 : (some (x10_1, t304)) = some (r1, r2) := by rw [if_pos rfl] at H; exact H
     clear H
     have H := H1
     clear H1
     simp only [Option.some.injEq, Prod.mk.injEq] at H
     obtain ⟨rfl, rfl⟩ := H
     have hcz23_0 : wr.cell? ⟨gb296, 0, none⟩ = some (.int .i64 a0_0) := (blk_cell BK296.out 0).trans rfl
     have hcz23_1 : wr.cell? ⟨gb296, 1, none⟩ = some (.slice A0_1 l0_1.length c0_1) := (blk_cell BK296.out 1).trans rfl
     have hfz23_0 := blk_frozen BK296.out 0
     have hfz23_1 := blk_frozen BK296.out 1
     go_wp2
     go_ret2
     exact ⟨_, by first | rfl | (simp [errW_none, errW_some] <;> rfl) | (simp [*, errW_none, errW_some] <;> rfl), bC_ HO_10, bB_ HB⟩
    ·replace c22 := Bool.eq_false_iff.mpr c22
     subst c22
     have H1 : (some (x10_1, false)) = some (r1, r2) := by rw [if_neg (show ¬ (false = true) by decide)] at H; exact H
     clear H
     have H := H1
     clear H1
     simp only [Option.some.injEq, Prod.mk.injEq] at H
     obtain ⟨rfl, rfl⟩ := H
     have hcz24_0 : wr.cell? ⟨gb296, 0, none⟩ = some (.int .i64 a0_0) := (blk_cell BK296.out 0).trans rfl
     have hcz24_1 : wr.cell? ⟨gb296, 1, none⟩ = some (.slice A0_1 l0_1.length c0_1) := (blk_cell BK296.out 1).trans rfl
     have hfz24_0 := blk_frozen BK296.out 0
     have hfz24_1 := blk_frozen BK296.out 1
     go_wp2
     go_ret2
     exact ⟨_, by first | rfl | (simp [errW_none, errW_some] <;> rfl) | (simp [*, errW_none, errW_some] <;> rfl), bC_ HO_10, bB_ HB⟩

end Go.Proofs.Ytnbkdfnlggmopaa.PFnExactSketchMove
