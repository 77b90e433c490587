/- Written for this claim by a program of this session: the functions that the law reaches, each with its contract. -/
import Derived.Test.YtgmbbcnfcddamaaPFnContourx0
import Derived.Test.YtgmbbcnfcddamaaPFnContourx1
import Derived.Test.YtgmbbcnfcddamaaPFnContourx2
import Derived.Test.YtgmbbcnfcddamaaPFnContourx3
namespace Go.Proofs.Ytgmbbcnfcddamaa.PFnContour
open Go.RowKit Go.Proofs.YtgmbbcnfcddamaaW.PrintWords Go.Proofs.YtgmbbcnfcddamaaW.PrintLast Go.Proofs.YtgmbbcnfcddamaaW.PrintMore
open Go.Proofs.YtgmbbcnfcddamaaW.PrintWords.Aside0 renaming mk → zA
open Go.Proofs.YtgmbbcnfcddamaaW.PrintWords.Kd renaming R_drewN → zE, R_alloc → zF, R_drew → zG, C_drewN → zH, C_alloc → zI, C_drew → zJ, R_below → zL
open Go.Proofs.YtgmbbcnfcddamaaW.PrintWords renaming blk_drewN → zM, blk_drew → zN, blk_alloc → zO, below_size → zT, blk_below → zU
attribute [local go_sem] i64_w max2_int min2_int max_two min_two max_three min_three max_four min_four
set_option linter.unusedVariables false
set_option linter.unusedSimpArgs false

attribute [local go_sem high] eqA43
mutual
def spec_Contour.j0 : Nat → Int → Bool → Int → Int → List Int → Option ((List (S43)) × Int)
 | 0, _, _, _, _, _ => none
 | k + 1, x1, x28, x108000, x108001, x108002 => if x28 = true then (some ((([] : List (S43))), 5)) else (spec_Contour.l0 k x1 (wrap64 (x108001 - 1)) x108000 x108001 x108002 (-1) 0)
def spec_Contour.l0 : Nat → Int → Int → Int → Int → List Int → Int → Int → Option ((List (S43)) × Int)
 | 0, _, _, _, _, _, _, _ => none
 | k + 1, x1, x7, x108000, x108001, x108002, x116000, x116001 => if x7 ≥ 0 then (spec_Contour.l1 k x1 x7 (wrap64 (x108000 - 1)) x108000 x108001 x108002 x116000 x116001) else (if x116000 < 0 then (some ((([] : List (S43))), 8)) else (spec_Contour.l2 k x1 1 0 (([(⟨x116000, x116001⟩ : S43)] : List (S43))) x108000 x108001 x108002 x116000 x116001 x116000 x116001))
def spec_Contour.l1 : Nat → Int → Int → Int → Int → Int → List Int → Int → Int → Option ((List (S43)) × Int)
 | 0, _, _, _, _, _, _, _, _ => none
 | k + 1, x1, x7, x8, x108000, x108001, x108002, x116000, x116001 => if x8 ≥ 0 then ((spec_l11Above.f x108000 x108001 x108002 x8 x7 x1).bind fun t116 => (if t116 = true then (spec_Contour.l1 k x1 x7 (wrap64 (x8 - 1)) x108000 x108001 x108002 x8 x7) else (spec_Contour.l1 k x1 x7 (wrap64 (x8 - 1)) x108000 x108001 x108002 x116000 x116001))) else (spec_Contour.l0 k x1 (wrap64 (x7 - 1)) x108000 x108001 x108002 x116000 x116001)
def spec_Contour.l2 : Nat → Int → Int → Int → List (S43) → Int → Int → List Int → Int → Int → Int → Int → Option ((List (S43)) × Int)
 | 0, _, _, _, _, _, _, _, _, _, _, _ => none
 | k + 1, x1, x9, x10, x12, x108000, x108001, x108002, x116000, x116001, x121000, x121001 => if ((wrap64 (x121000 + x9)) == x116000 && ((wrap64 (x121001 + x10)) == x116001)) = true then (some (x12, 0)) else ((spec_l11Ahead.f k (wrap64 (x121000 + x9)) (wrap64 (x121001 + x10)) x9 x10 true).bind fun bt124 => ((spec_l11Ahead.f k (wrap64 (x121000 + x9)) (wrap64 (x121001 + x10)) x9 x10 false).bind fun bt126 => ((spec_l11Above.f x108000 x108001 x108002 bt124.1 bt124.2 x1).bind fun t128 => (if t128 = true then ((spec_l11Above.f x108000 x108001 x108002 bt126.1 bt126.2 x1).bind fun t129 => (if t129 = true then (if x12.length < 8796093022208 then (spec_Contour.l2 k x1 x10 (wrap64 (-x9)) (x12 ++ [(⟨wrap64 (x121000 + x9), wrap64 (x121001 + x10)⟩ : S43)]) x108000 x108001 x108002 x116000 x116001 (wrap64 (x121000 + x9)) (wrap64 (x121001 + x10))) else (none)) else (spec_Contour.l2 k x1 x9 x10 x12 x108000 x108001 x108002 x116000 x116001 (wrap64 (x121000 + x9)) (wrap64 (x121001 + x10))))) else (if x12.length < 8796093022208 then (spec_Contour.l2 k x1 (wrap64 (-x10)) x9 (x12 ++ [(⟨wrap64 (x121000 + x9), wrap64 (x121001 + x10)⟩ : S43)]) x108000 x108001 x108002 x116000 x116001 (wrap64 (x121000 + x9)) (wrap64 (x121001 + x10))) else (none))))))
end
def spec_Contour.f (k : Nat) (a0_0 : Int) (a0_1 : Int) (l0_2 : List Int) (a1 : Int) : Option ((List (S43)) × Int) := (spec_FieldOK.f k a0_0 a0_1 l0_2).bind fun t108 => (if t108 = true then (if a1 < 0 then (spec_Contour.j0 k a1 true a0_0 a0_1 l0_2) else (spec_Contour.j0 k a1 (decide (a1 ≥ 24)) a0_0 a0_1 l0_2)) else (some ((([] : List (S43))), 1)))
theorem spec_Contour.mono_l : ∀ k, (∀ y0 y1 y2 y3 y4, LeO (spec_Contour.j0 k y0 y1 y2 y3 y4) (spec_Contour.j0 (k + 1) y0 y1 y2 y3 y4)) ∧ (∀ y0 y1 y2 y3 y4 y5 y6, LeO (spec_Contour.l0 k y0 y1 y2 y3 y4 y5 y6) (spec_Contour.l0 (k + 1) y0 y1 y2 y3 y4 y5 y6)) ∧ (∀ y0 y1 y2 y3 y4 y5 y6 y7, LeO (spec_Contour.l1 k y0 y1 y2 y3 y4 y5 y6 y7) (spec_Contour.l1 (k + 1) y0 y1 y2 y3 y4 y5 y6 y7)) ∧ (∀ y0 y1 y2 y3 y4 y5 y6 y7 y8 y9 y10, LeO (spec_Contour.l2 k y0 y1 y2 y3 y4 y5 y6 y7 y8 y9 y10) (spec_Contour.l2 (k + 1) y0 y1 y2 y3 y4 y5 y6 y7 y8 y9 y10))
 | 0 => ⟨fun _ _ _ _ _ r h => by simp [spec_Contour.j0] at h, fun _ _ _ _ _ _ _ r h => by simp [spec_Contour.l0] at h, fun _ _ _ _ _ _ _ _ r h => by simp [spec_Contour.l1] at h, fun _ _ _ _ _ _ _ _ _ _ _ r h => by simp [spec_Contour.l2] at h⟩
 | k + 1 => by
  obtain ⟨ih0, ih1, ih2, ih3⟩ := spec_Contour.mono_l k
  refine ⟨?_, ?_, ?_, ?_⟩
  ·intro y0 y1 y2 y3 y4
   unfold spec_Contour.j0
   repeat' first
   | (with_reducible exact ih0 _ _ _ _ _)
   | (with_reducible exact ih1 _ _ _ _ _ _ _)
   | (with_reducible exact ih2 _ _ _ _ _ _ _ _)
   | (with_reducible exact ih3 _ _ _ _ _ _ _ _ _ _ _)
   | (with_reducible exact spec_FieldOK.mono _ _ _ _)
   | (with_reducible exact spec_l11Ahead.mono _ _ _ _ _ _)
   | (with_reducible exact LeO.refl _)
   | (with_reducible exact LeO.none _)
   | (with_reducible refine LeO.ite ?_ ?_)
   | (with_reducible refine LeO.bind ?_ (fun _ => ?_))
   | exact ih0 _ _ _ _ _
   | exact ih1 _ _ _ _ _ _ _
   | exact ih2 _ _ _ _ _ _ _ _
   | exact ih3 _ _ _ _ _ _ _ _ _ _ _
   | exact spec_FieldOK.mono _ _ _ _
   | exact spec_l11Ahead.mono _ _ _ _ _ _
   | exact LeO.none _
   | refine LeO.ite ?_ ?_
   | refine LeO.bind ?_ (fun _ => ?_)
  ·intro y0 y1 y2 y3 y4 y5 y6
   unfold spec_Contour.l0
   repeat' first
   | (with_reducible exact ih0 _ _ _ _ _)
   | (with_reducible exact ih1 _ _ _ _ _ _ _)
   | (with_reducible exact ih2 _ _ _ _ _ _ _ _)
   | (with_reducible exact ih3 _ _ _ _ _ _ _ _ _ _ _)
   | (with_reducible exact spec_FieldOK.mono _ _ _ _)
   | (with_reducible exact spec_l11Ahead.mono _ _ _ _ _ _)
   | (with_reducible exact LeO.refl _)
   | (with_reducible exact LeO.none _)
   | (with_reducible refine LeO.ite ?_ ?_)
   | (with_reducible refine LeO.bind ?_ (fun _ => ?_))
   | exact ih0 _ _ _ _ _
   | exact ih1 _ _ _ _ _ _ _
   | exact ih2 _ _ _ _ _ _ _ _
   | exact ih3 _ _ _ _ _ _ _ _ _ _ _
   | exact spec_FieldOK.mono _ _ _ _
   | exact spec_l11Ahead.mono _ _ _ _ _ _
   | exact LeO.none _
   | refine LeO.ite ?_ ?_
   | refine LeO.bind ?_ (fun _ => ?_)
  ·intro y0 y1 y2 y3 y4 y5 y6 y7
   unfold spec_Contour.l1
   repeat' first
   | (with_reducible exact ih0 _ _ _ _ _)
   | (with_reducible exact ih1 _ _ _ _ _ _ _)
   | (with_reducible exact ih2 _ _ _ _ _ _ _ _)
   | (with_reducible exact ih3 _ _ _ _ _ _ _ _ _ _ _)
   | (with_reducible exact spec_FieldOK.mono _ _ _ _)
   | (with_reducible exact spec_l11Ahead.mono _ _ _ _ _ _)
   | (with_reducible exact LeO.refl _)
   | (with_reducible exact LeO.none _)
   | (with_reducible refine LeO.ite ?_ ?_)
   | (with_reducible refine LeO.bind ?_ (fun _ => ?_))
   | exact ih0 _ _ _ _ _
   | exact ih1 _ _ _ _ _ _ _
   | exact ih2 _ _ _ _ _ _ _ _
   | exact ih3 _ _ _ _ _ _ _ _ _ _ _
   | exact spec_FieldOK.mono _ _ _ _
   | exact spec_l11Ahead.mono _ _ _ _ _ _
   | exact LeO.none _
   | refine LeO.ite ?_ ?_
   | refine LeO.bind ?_ (fun _ => ?_)
  ·intro y0 y1 y2 y3 y4 y5 y6 y7 y8 y9 y10
   unfold spec_Contour.l2
   repeat' first
   | (with_reducible exact ih0 _ _ _ _ _)
   | (with_reducible exact ih1 _ _ _ _ _ _ _)
   | (with_reducible exact ih2 _ _ _ _ _ _ _ _)
   | (with_reducible exact ih3 _ _ _ _ _ _ _ _ _ _ _)
   | (with_reducible exact spec_FieldOK.mono _ _ _ _)
   | (with_reducible exact spec_l11Ahead.mono _ _ _ _ _ _)
   | (with_reducible exact LeO.refl _)
   | (with_reducible exact LeO.none _)
   | (with_reducible refine LeO.ite ?_ ?_)
   | (with_reducible refine LeO.bind ?_ (fun _ => ?_))
   | exact ih0 _ _ _ _ _
   | exact ih1 _ _ _ _ _ _ _
   | exact ih2 _ _ _ _ _ _ _ _
   | exact ih3 _ _ _ _ _ _ _ _ _ _ _
   | exact spec_FieldOK.mono _ _ _ _
   | exact spec_l11Ahead.mono _ _ _ _ _ _
   | exact LeO.none _
   | refine LeO.ite ?_ ?_
   | refine LeO.bind ?_ (fun _ => ?_)
theorem spec_Contour.mono : ∀ a0 a1 a2 a3 k, LeO (spec_Contour.f k a0 a1 a2 a3) (spec_Contour.f (k + 1) a0 a1 a2 a3) := by
 intro a0 a1 a2 a3 k
 obtain ⟨ih0, ih1, ih2, ih3⟩ := spec_Contour.mono_l k
 unfold spec_Contour.f
 repeat' first
   | (with_reducible exact ih0 _ _ _ _ _)
   | (with_reducible exact ih1 _ _ _ _ _ _ _)
   | (with_reducible exact ih2 _ _ _ _ _ _ _ _)
   | (with_reducible exact ih3 _ _ _ _ _ _ _ _ _ _ _)
   | (with_reducible exact spec_FieldOK.mono _ _ _ _)
   | (with_reducible exact spec_l11Ahead.mono _ _ _ _ _ _)
   | (with_reducible exact LeO.refl _)
   | (with_reducible exact LeO.none _)
   | (with_reducible refine LeO.ite ?_ ?_)
   | (with_reducible refine LeO.bind ?_ (fun _ => ?_))
   | exact ih0 _ _ _ _ _
   | exact ih1 _ _ _ _ _ _ _
   | exact ih2 _ _ _ _ _ _ _ _
   | exact ih3 _ _ _ _ _ _ _ _ _ _ _
   | exact spec_FieldOK.mono _ _ _ _
   | exact spec_l11Ahead.mono _ _ _ _ _ _
   | exact LeO.none _
   | refine LeO.ite ?_ ?_
   | refine LeO.bind ?_ (fun _ => ?_)
set_option maxHeartbeats 8000000 in
set_option maxRecDepth 100000 in
theorem spec_Contour.calls (k : Nat) (a0_0 : Int) (a0_1 : Int) (A0_2 : Option Addr) (c0_2 : Nat) (l0_2 : List Int) (a1 : Int) (r1 : List (S43)) (r2 : Int) (w : World) (hr0_2 : Kd.C (Kd.int .i64) w A0_2 l0_2.length l0_2) (hc0_2 : l0_2.length ≤ c0_2) (h : spec_Contour.f k a0_0 a0_1 l0_2 a1 = some (r1, r2)) :
  Calls Try.prog 16 #[.agg #[.int .i64 a0_0, .int .i64 a0_1, .slice A0_2 l0_2.length c0_2], .int .i64 a1] w fun e w' => ∃ v0_ : Value, e = .returned (.tuple #[v0_, .int .i64 r2]) ∧ Kd.R k43 43 w' w.heap.size (fun _ => True) v0_ r1 ∧ Below w.heap.size w w' := by
 have hu26 := Try.underlying26
 have hu43 := Try.underlying43
 have HR0_2 := zA hr0_2
 have HC0_2 := zA hc0_2
 clear hr0_2 hc0_2
 have HB := zA (Below.refl w.heap.size w)
 have H : ((spec_FieldOK.f k a0_0 a0_1 l0_2).bind fun t108 => (if t108 = true then (if a1 < 0 then (spec_Contour.j0 k a1 true a0_0 a0_1 l0_2) else (spec_Contour.j0 k a1 (decide (a1 ≥ 24)) a0_0 a0_1 l0_2)) else (some ((([] : List (S43))), 1)))) = some (r1, r2) := h
 clear h
 replace H := Option.bind_eq_some_iff.mp H
 obtain ⟨t108, A30, H⟩ := H
 replace H : (if t108 = true then (if a1 < 0 then (spec_Contour.j0 k a1 true a0_0 a0_1 l0_2) else (spec_Contour.j0 k a1 (decide (a1 ≥ 24)) a0_0 a0_1 l0_2)) else (some ((([] : List (S43))), 1))) = some (r1, r2) := H
 have A3 := zA A30
 clear A30
 by_cases c4 : t108 = true
 ·subst c4
  have H1 : (if a1 < 0 then (spec_Contour.j0 k a1 true a0_0 a0_1 l0_2) else (spec_Contour.j0 k a1 (decide (a1 ≥ 24)) a0_0 a0_1 l0_2)) = some (r1, r2) := by rw [if_pos rfl] at H; exact H
  clear H
  have H := H1
  clear H1
  have HC5 := zA H
  clear H
  go_enter Try.func16, Try.ntmps16
  go_upto_region 3 with (first | ((with_reducible refine gate_dst (N := 2) rfl ?_); refine box_event ?hg (N := 2) ?hd (cs := #[.int .i64 a0_0, .int .i64 a0_1, .slice A0_2 l0_2.length c0_2]) (t := 26) ?hr ?_; (case hd => rfl); (case hg => rfl); (case hr => first | (go_simp; done) | (go_simp; rfl)); intro gb107 hg w6 hbox hb; have n0_ := zA (below_step (bB_ HB) hb); have n1_ := zA (hbox); have n2_ := zA ((by rw [hg]; exact (zT (bB_ HB)) : w.heap.size ≤ gb107)); have n3_ := zA ((by rw [hg]; exact (zT (bB_ HB)) : w.heap.size ≤ gb107)); clear HB; have HB := n0_; have BK107 := n1_; have GW107 := n2_; have GE107 := n3_; clear n0_ n1_ n2_ n3_; clear hb hbox hg; have hcz7_0 : w6.cell? ⟨gb107, 0, none⟩ = some (.int .i64 a0_0) := (blk_cell BK107.out 0).trans rfl; have hcz7_1 : w6.cell? ⟨gb107, 1, none⟩ = some (.int .i64 a0_1) := (blk_cell BK107.out 1).trans rfl; have hcz7_2 : w6.cell? ⟨gb107, 2, none⟩ = some (.slice A0_2 l0_2.length c0_2) := (blk_cell BK107.out 2).trans rfl; have hfz7_0 := blk_frozen BK107.out 0; have hfz7_1 := blk_frozen BK107.out 1; have hfz7_2 := blk_frozen BK107.out 2) | ((with_reducible refine gate_callee (f := 39) rfl ?_); refine goesL_ (some 20) rfl rfl Try.func39 (by kernel_rfl) rfl #[.agg #[.int .i64 a0_0, .int .i64 a0_1, .slice A0_2 l0_2.length c0_2]] rfl (by (try simp only [List.map_toArray, List.map_cons, List.map_nil]); first | done | rfl | (simp only [List.length_drop, List.length_take]; rfl)) ?_; (with_reducible refine (spec_FieldOK.calls k a0_0 a0_1 _ _ l0_2 true _ ?side1 ?side2 A3.out).mono ?_); (case side1 => repeat (first | exact (Kd.C_below HR0_2.out HB.out) | (with_reducible refine zI ?_ _) | (with_reducible refine zH ?_ _) | (with_reducible refine zJ ?_))); (case side2 => exact HC0_2.out); rintro e w8 ⟨rfl, hb⟩; refine ⟨_, rfl, ?_⟩; have n0_ := zA (zU (g := gb107) (o := .cells #[.int .i64 a0_0, .int .i64 a0_1, .slice A0_2 l0_2.length c0_2] 26 (0, 0)) (bA_ BK107) hb); have n1_ := zA (below_step (bB_ HB) hb); clear BK107; clear HB; have BK107 := n0_; have HB := n1_; clear n0_ n1_; (try clear hb); (try clear hb2); (try clear hk); (try clear hi)))
  (try simp only [Act.put, List.setIfInBounds_toArray, List.set_cons_zero, List.set_cons_succ])
  go_cut [28] (fun v28 wc => ∃ (kq : Nat) (x28_4 : Bool), v28 = .bool x28_4 ∧ Aside0 (spec_Contour.j0 kq a1 x28_4 a0_0 a0_1 l0_2 = some (r1, r2)) ∧ Aside0 (kq ≤ k) ∧ Aside0 (wc.heap[gb107]? = some (.cells #[.int .i64 a0_0, .int .i64 a0_1, (.slice A0_2 l0_2.length c0_2)] 26 (0, 0))) ∧ Aside0 (Below w.heap.size w wc))
  case first =>
   have H := HC5.out
   clear HC5
   by_cases c9 : a1 < 0
   ·rw [if_pos c9] at H
    have c9b0 : decide (a1 < 0) = true := decide_eq_true c9
    clear c9
    (first | rw [c9b0] | (simp only [i64_w, i32_w]; rw [c9b0]) | skip)
    have H' := zA H
    clear H
    go_wp2
    go_meet
    case rel => exact ⟨_, (true), (by first | rfl | (simp; done) | (simp [*]; done)), H', ⟨by first | omega | exact Nat.le_refl _⟩, ⟨bA_ BK107⟩, ⟨bB_ HB⟩⟩
   ·rw [if_neg c9] at H
    have c9b0 : decide (a1 < 0) = false := decide_eq_false c9
    clear c9
    (first | rw [c9b0] | (simp only [i64_w, i32_w]; rw [c9b0]) | skip)
    have H' := zA H
    clear H
    go_wp2
    go_meet
    case rel => exact ⟨_, (decide (a1 ≥ 24)), (by first | rfl | (simp; done) | (simp [*]; done)), H', ⟨by first | omega | exact Nat.le_refl _⟩, ⟨bA_ BK107⟩, ⟨bB_ HB⟩⟩
  case rest =>
   clear HC5
   try clear c1
   try clear p2
   try clear c3
   try clear c4
   try clear c9
   try clear c9b0
   try clear hcz7_0
   try clear hcz7_1
   try clear hcz7_2
   try clear hfz7_0
   try clear hfz7_1
   try clear hfz7_2
   obtain ⟨kq, x28_4, rfl, HA, HJ4, BK107, HB⟩ := hcut
   cases kq with
   | zero => exact absurd HA.out (by simp [spec_Contour.j0])
   | succ kj4 =>
    have H := HA.out
    clear HA
    simp only [spec_Contour.j0] at H
    by_cases c10 : x28_4 = true
    ·subst c10
     have H1 : (some ((([] : List (S43))), 5)) = some (r1, r2) := by rw [if_pos rfl] at H; exact H
     clear H
     have H := H1
     clear H1
     obtain ⟨y112, hy112⟩ : ∃ y_ : List (S43), y_ = (([] : List (S43))) := ⟨_, rfl⟩
     replace H : (some (y112, 5)) = some (r1, r2) := by first | (rw [hy112]; with_reducible exact H) | (have H2_ := (Option.bind_some _ _).symm.trans H; rw [hy112]; with_reducible exact H2_) | (have H2_ := (Option.bind_some _ _).symm.trans H; with_reducible exact H2_) | with_reducible exact H | (rw [hy112]; exact H) | exact H
     have Ny112 := zA hy112
     clear hy112
     simp only [Option.some.injEq, Prod.mk.injEq] at H
     obtain ⟨rfl, rfl⟩ := H
     go_wp2_with (first | ((with_reducible refine gate_dst (N := 29) rfl ?_); refine Kd.R_lit k43 _ 43 ?hg (N := 29) ?hd (xs := ([] : List (S43))) (inner := []) (ok := fun _ => True) (okp := fun _ => True) ?hr ?hp (fun _ hk => hk) trivial (Below.refl _ _) (Nat.le_refl _) (by simp) ?_; (case hd => rfl); (case hg => rfl); (case hr => first | (go_simp; done) | (go_simp; rfl)); (case hp => exact (Reps.none _ _)); intro v113 w11 ho12 hb hg_ hnew_; clear hg_ hnew_; (first | rw [← Ny112.out] at ho12 | (simp only [Int.reduceToNat] at ho12; rw [← Ny112.out] at ho12)); have n0_ := zA (Kd.R_lower ho12 (zT (bB_ HB))); have n1_ := zA (zU (g := gb107) (o := .cells #[.int .i64 a0_0, .int .i64 a0_1, .slice A0_2 l0_2.length c0_2] 26 (0, 0)) (bA_ BK107) hb); have n2_ := zA (below_step (bB_ HB) hb); clear BK107; clear HB; have HO114 := n0_; have BK107 := n1_; have HB := n2_; clear n0_ n1_ n2_; clear hb ho12))
     go_ret2
     exact ⟨_, by first | rfl | (simp [errW_none, errW_some] <;> rfl) | (simp [*, errW_none, errW_some] <;> rfl), bC_ HO114, bB_ HB⟩
    ·replace c10 := Bool.eq_false_iff.mpr c10
     subst c10
     have H1 : (spec_Contour.l0 kj4 a1 (wrap64 (a0_1 - 1)) a0_0 a0_1 l0_2 (-1) 0) = some (r1, r2) := by rw [if_neg (show ¬ (false = true) by decide)] at H; exact H
     clear H
     have H := H1
     clear H1
     have H' := zA H
     clear H
     go_wp2_with (first | ((with_reducible refine gate_dst (N := 6) rfl ?_); refine box_event ?hg (N := 6) ?hd (cs := #[.int .i64 0, .int .i64 0]) (t := 43) ?hr ?_; (case hd => rfl); (case hg => rfl); (case hr => first | (go_simp; done) | (go_simp; rfl)); intro gb115 hg w13 hbox hb; have n0_ := zA (zU (g := gb107) (o := .cells #[.int .i64 a0_0, .int .i64 a0_1, .slice A0_2 l0_2.length c0_2] 26 (0, 0)) (bA_ BK107) hb); have n1_ := zA (below_step (bB_ HB) hb); have n2_ := zA (hbox); have n3_ := zA ((by rw [hg]; exact (zT (bB_ HB)) : w.heap.size ≤ gb115)); have n4_ := zA ((by rw [hg]; exact (zT (bB_ HB)) : w.heap.size ≤ gb115)); have n5_ := zA ((by rw [hg]; exact Nat.ne_of_lt (blk_lt (g := gb107) (o := .cells #[.int .i64 a0_0, .int .i64 a0_1, .slice A0_2 l0_2.length c0_2] 26 (0, 0)) (bA_ BK107)) : gb107 ≠ gb115)); have n6_ := zA ((by rw [hg]; exact Nat.ne_of_gt (blk_lt (g := gb107) (o := .cells #[.int .i64 a0_0, .int .i64 a0_1, .slice A0_2 l0_2.length c0_2] 26 (0, 0)) (bA_ BK107)) : gb115 ≠ gb107)); clear BK107; clear HB; have BK107 := n0_; have HB := n1_; have BK115 := n2_; have GW115 := n3_; have GE115 := n4_; have NB107_115 := n5_; have NB115_107 := n6_; clear n0_ n1_ n2_ n3_ n4_ n5_ n6_; clear hb hbox hg; have hnb14 := NB115_107.out; have hnc14 := NB107_115.out; have hcz15_0 : w13.cell? ⟨gb115, 0, none⟩ = some (.int .i64 0) := (blk_cell BK115.out 0).trans rfl; have hcz15_1 : w13.cell? ⟨gb115, 1, none⟩ = some (.int .i64 0) := (blk_cell BK115.out 1).trans rfl; have hfz15_0 := blk_frozen BK115.out 0; have hfz15_1 := blk_frozen BK115.out 1; have hcz16_0 : w13.cell? ⟨gb107, 0, none⟩ = some (.int .i64 a0_0) := (blk_cell BK107.out 0).trans rfl; have hcz16_1 : w13.cell? ⟨gb107, 1, none⟩ = some (.int .i64 a0_1) := (blk_cell BK107.out 1).trans rfl; have hcz16_2 : w13.cell? ⟨gb107, 2, none⟩ = some (.slice A0_2 l0_2.length c0_2) := (blk_cell BK107.out 2).trans rfl; have hfz16_0 := blk_frozen BK107.out 0; have hfz16_1 := blk_frozen BK107.out 1; have hfz16_2 := blk_frozen BK107.out 2))
     go_loopg [7] kj4 (fun kq v7 w' => ∃ (x7_2 : Int) (x116000_2 : Int) (x116001_2 : Int), v7 = .int .i64 x7_2 ∧ Aside0 (spec_Contour.l0 kq a1 x7_2 a0_0 a0_1 l0_2 x116000_2 x116001_2 = some (r1, r2)) ∧ Aside0 (kq ≤ kj4) ∧ Aside0 (w'.heap[gb107]? = some (.cells #[.int .i64 a0_0, .int .i64 a0_1, (.slice A0_2 l0_2.length c0_2)] 26 (0, 0))) ∧ Aside0 (w'.heap[gb115]? = some (.cells #[.int .i64 x116000_2, .int .i64 x116001_2] 43 (0, 0))) ∧ Aside0 (Below w.heap.size w w'))
     case atStart => exact ⟨(wrap64 (a0_1 - 1)), ((-1)), (0), (by first | rfl | (simp; done) | (simp [*]; done)), H', ⟨Nat.le_refl _⟩, ⟨bD_ BK107⟩, ⟨by (with_reducible repeat (first | refine zM ?_ _ | refine zN ?_ | refine zO ?_ _)); refine blk_put (cs := #[.int .i64 (-1), .int .i64 0]) ?_ 1 _ rfl; (with_reducible repeat (first | refine zM ?_ _ | refine zN ?_ | refine zO ?_ _)); refine blk_put (cs := #[.int .i64 0, .int .i64 0]) ?_ 0 _ rfl; (with_reducible repeat (first | refine zM ?_ _ | refine zN ?_ | refine zO ?_ _)); exact BK115.out⟩, ⟨bB_ HB⟩⟩
     case round =>
      clear H'
      try clear c1
      try clear p2
      try clear c3
      try clear c4
      try clear p6
      try clear c9
      try clear c9b0
      try clear c10
      try clear c14
      try clear c16
      try clear hcz15_0
      try clear hcz15_1
      try clear hcz16_0
      try clear hcz16_1
      try clear hcz16_2
      try clear hcz7_0
      try clear hcz7_1
      try clear hcz7_2
      try clear hfz15_0
      try clear hfz15_1
      try clear hfz16_0
      try clear hfz16_1
      try clear hfz16_2
      try clear hfz7_0
      try clear hfz7_1
      try clear hfz7_2
      try clear p2
      obtain ⟨x7_2, x116000_2, x116001_2, rfl, HA, HK2, BK107, BK115, HB⟩ := hrel
      cases gk with
      | zero => exact absurd HA.out (by simp [spec_Contour.l0])
      | succ k2 =>
       have H := HA.out
       clear HA
       simp only [spec_Contour.l0] at H
       by_cases c17 : x7_2 ≥ 0
       ·rw [if_pos c17] at H
        have c17b0 : decide (0 ≤ x7_2) = true := decide_eq_true c17
        clear c17
        have H' := zA H
        clear H
        have hnb18 := NB107_115.out
        have hnc18 := NB115_107.out
        have hcz19_0 : wr.cell? ⟨gb107, 0, none⟩ = some (.int .i64 a0_0) := (blk_cell BK107.out 0).trans rfl
        have hcz19_1 : wr.cell? ⟨gb107, 1, none⟩ = some (.int .i64 a0_1) := (blk_cell BK107.out 1).trans rfl
        have hcz19_2 : wr.cell? ⟨gb107, 2, none⟩ = some (.slice A0_2 l0_2.length c0_2) := (blk_cell BK107.out 2).trans rfl
        have hfz19_0 := blk_frozen BK107.out 0
        have hfz19_1 := blk_frozen BK107.out 1
        have hfz19_2 := blk_frozen BK107.out 2
        go_wp2
        go_loopg [8] k2 (fun kq v8 w' => ∃ (x8_3 : Int) (x116000_3 : Int) (x116001_3 : Int), v8 = .int .i64 x8_3 ∧ Aside0 (spec_Contour.l1 kq a1 x7_2 x8_3 a0_0 a0_1 l0_2 x116000_3 x116001_3 = some (r1, r2)) ∧ Aside0 (kq ≤ k2) ∧ Aside0 (w'.heap[gb107]? = some (.cells #[.int .i64 a0_0, .int .i64 a0_1, (.slice A0_2 l0_2.length c0_2)] 26 (0, 0))) ∧ Aside0 (w'.heap[gb115]? = some (.cells #[.int .i64 x116000_3, .int .i64 x116001_3] 43 (0, 0))) ∧ Aside0 (Below w.heap.size w w'))
        case atStart => exact ⟨(wrap64 (a0_0 - 1)), (x116000_2), (x116001_2), (by first | rfl | (simp; done) | (simp [*]; done)), H', ⟨Nat.le_refl _⟩, ⟨bA_ BK107⟩, ⟨bA_ BK115⟩, ⟨bB_ HB⟩⟩
        case round =>
         clear H'
         try clear c1
         try clear p2
         try clear c3
         try clear c4
         try clear p6
         try clear c9
         try clear c9b0
         try clear c10
         try clear c14
         try clear c16
         try clear c17
         try clear c17b0
         try clear c18
         try clear hcz15_0
         try clear hcz15_1
         try clear hcz16_0
         try clear hcz16_1
         try clear hcz16_2
         try clear hcz19_0
         try clear hcz19_1
         try clear hcz19_2
         try clear hcz7_0
         try clear hcz7_1
         try clear hcz7_2
         try clear hfz15_0
         try clear hfz15_1
         try clear hfz16_0
         try clear hfz16_1
         try clear hfz16_2
         try clear hfz19_0
         try clear hfz19_1
         try clear hfz19_2
         try clear hfz7_0
         try clear hfz7_1
         try clear hfz7_2
         try clear p2
         try clear p6
         obtain ⟨x8_3, x116000_3, x116001_3, rfl, HA, HK3, BK107, BK115, HB⟩ := hrel
         cases gk with
         | zero => exact absurd HA.out (by simp [spec_Contour.l1])
         | succ k3 =>
          have H := HA.out
          clear HA
          simp only [spec_Contour.l1] at H
          by_cases c20 : x8_3 ≥ 0
          ·rw [if_pos c20] at H
           have c20b0 : decide (0 ≤ x8_3) = true := decide_eq_true c20
           clear c20
           replace H := Option.bind_eq_some_iff.mp H
           obtain ⟨t116, A210, H⟩ := H
           replace H : (if t116 = true then (spec_Contour.l1 k3 a1 x7_2 (wrap64 (x8_3 - 1)) a0_0 a0_1 l0_2 x8_3 x7_2) else (spec_Contour.l1 k3 a1 x7_2 (wrap64 (x8_3 - 1)) a0_0 a0_1 l0_2 x116000_3 x116001_3)) = some (r1, r2) := H
           have A21 := zA A210
           clear A210
           by_cases c22 : t116 = true
           ·subst c22
            have H1 : (spec_Contour.l1 k3 a1 x7_2 (wrap64 (x8_3 - 1)) a0_0 a0_1 l0_2 x8_3 x7_2) = some (r1, r2) := by rw [if_pos rfl] at H; exact H
            clear H
            have H := H1
            clear H1
            have H' := zA H
            clear H
            have hnb23 := NB107_115.out
            have hnc23 := NB115_107.out
            have hcz24_0 : wr.cell? ⟨gb107, 0, none⟩ = some (.int .i64 a0_0) := (blk_cell BK107.out 0).trans rfl
            have hcz24_1 : wr.cell? ⟨gb107, 1, none⟩ = some (.int .i64 a0_1) := (blk_cell BK107.out 1).trans rfl
            have hcz24_2 : wr.cell? ⟨gb107, 2, none⟩ = some (.slice A0_2 l0_2.length c0_2) := (blk_cell BK107.out 2).trans rfl
            have hfz24_0 := blk_frozen BK107.out 0
            have hfz24_1 := blk_frozen BK107.out 1
            have hfz24_2 := blk_frozen BK107.out 2
            go_wp2_with (first | ((with_reducible refine gate_callee (f := 51) rfl ?_); refine goesL_ (some 49) rfl rfl Try.func51 (by kernel_rfl) rfl #[.agg #[.int .i64 a0_0, .int .i64 a0_1, .slice A0_2 l0_2.length c0_2], .int .i64 x8_3, .int .i64 x7_2, .int .i64 a1] rfl (by (try simp only [List.map_toArray, List.map_cons, List.map_nil]); first | done | rfl | (simp only [List.length_drop, List.length_take]; rfl)) ?_; (with_reducible refine (spec_l11Above.calls a0_0 a0_1 _ _ l0_2 x8_3 x7_2 a1 true _ ?side1 ?side2 A21.out).mono ?_); (case side1 => repeat (first | exact (Kd.C_below HR0_2.out HB.out) | (with_reducible refine zI ?_ _) | (with_reducible refine zH ?_ _) | (with_reducible refine zJ ?_))); (case side2 => exact HC0_2.out); rintro e w25 ⟨rfl, hb⟩; refine ⟨_, rfl, ?_⟩; have n0_ := zA (zU (g := gb107) (o := .cells #[.int .i64 a0_0, .int .i64 a0_1, .slice A0_2 l0_2.length c0_2] 26 (0, 0)) (bA_ BK107) hb); have n1_ := zA (zU (g := gb115) (o := .cells #[.int .i64 x116000_3, .int .i64 x116001_3] 43 (0, 0)) (bA_ BK115) hb); have n2_ := zA (below_step (bB_ HB) hb); clear BK107; clear BK115; clear HB; have BK107 := n0_; have BK115 := n1_; have HB := n2_; clear n0_ n1_ n2_; (try clear hb); (try clear hb2); (try clear hk); (try clear hi); have hcz26_0 : w25.cell? ⟨gb115, 0, none⟩ = some (.int .i64 x116000_3) := (blk_cell BK115.out 0).trans rfl; have hcz26_1 : w25.cell? ⟨gb115, 1, none⟩ = some (.int .i64 x116001_3) := (blk_cell BK115.out 1).trans rfl; have hfz26_0 := blk_frozen BK115.out 0; have hfz26_1 := blk_frozen BK115.out 1))
            go_roundg k3
            case measure => have := HJ4.out; have := HK2.out; have := HK3.out; omega
            case rel => exact ⟨(wrap64 (x8_3 - 1)), (x8_3), (x7_2), (by first | rfl | (simp; done) | (simp [*]; done)), H', ⟨by have := HJ4.out; have := HK2.out; have := HK3.out; omega⟩, ⟨bD_ BK107⟩, ⟨by (with_reducible repeat (first | refine zM ?_ _ | refine zN ?_ | refine zO ?_ _)); refine blk_put (cs := #[.int .i64 x8_3, .int .i64 x116001_3]) ?_ 1 _ rfl; (with_reducible repeat (first | refine zM ?_ _ | refine zN ?_ | refine zO ?_ _)); refine blk_put (cs := #[.int .i64 x116000_3, .int .i64 x116001_3]) ?_ 0 _ rfl; (with_reducible repeat (first | refine zM ?_ _ | refine zN ?_ | refine zO ?_ _)); exact BK115.out⟩, ⟨bB_ HB⟩⟩
           ·replace c22 := Bool.eq_false_iff.mpr c22
            subst c22
            have H1 : (spec_Contour.l1 k3 a1 x7_2 (wrap64 (x8_3 - 1)) a0_0 a0_1 l0_2 x116000_3 x116001_3) = some (r1, r2) := by rw [if_neg (show ¬ (false = true) by decide)] at H; exact H
            clear H
            have H := H1
            clear H1
            have H' := zA H
            clear H
            have hnb27 := NB107_115.out
            have hnc27 := NB115_107.out
            have hcz28_0 : wr.cell? ⟨gb107, 0, none⟩ = some (.int .i64 a0_0) := (blk_cell BK107.out 0).trans rfl
            have hcz28_1 : wr.cell? ⟨gb107, 1, none⟩ = some (.int .i64 a0_1) := (blk_cell BK107.out 1).trans rfl
            have hcz28_2 : wr.cell? ⟨gb107, 2, none⟩ = some (.slice A0_2 l0_2.length c0_2) := (blk_cell BK107.out 2).trans rfl
            have hfz28_0 := blk_frozen BK107.out 0
            have hfz28_1 := blk_frozen BK107.out 1
            have hfz28_2 := blk_frozen BK107.out 2
            go_wp2_with (first | ((with_reducible refine gate_callee (f := 51) rfl ?_); refine goesL_ (some 49) rfl rfl Try.func51 (by kernel_rfl) rfl #[.agg #[.int .i64 a0_0, .int .i64 a0_1, .slice A0_2 l0_2.length c0_2], .int .i64 x8_3, .int .i64 x7_2, .int .i64 a1] rfl (by (try simp only [List.map_toArray, List.map_cons, List.map_nil]); first | done | rfl | (simp only [List.length_drop, List.length_take]; rfl)) ?_; (with_reducible refine (spec_l11Above.calls a0_0 a0_1 _ _ l0_2 x8_3 x7_2 a1 false _ ?side1 ?side2 A21.out).mono ?_); (case side1 => repeat (first | exact (Kd.C_below HR0_2.out HB.out) | (with_reducible refine zI ?_ _) | (with_reducible refine zH ?_ _) | (with_reducible refine zJ ?_))); (case side2 => exact HC0_2.out); rintro e w29 ⟨rfl, hb⟩; refine ⟨_, rfl, ?_⟩; have n0_ := zA (zU (g := gb107) (o := .cells #[.int .i64 a0_0, .int .i64 a0_1, .slice A0_2 l0_2.length c0_2] 26 (0, 0)) (bA_ BK107) hb); have n1_ := zA (zU (g := gb115) (o := .cells #[.int .i64 x116000_3, .int .i64 x116001_3] 43 (0, 0)) (bA_ BK115) hb); have n2_ := zA (below_step (bB_ HB) hb); clear BK107; clear BK115; clear HB; have BK107 := n0_; have BK115 := n1_; have HB := n2_; clear n0_ n1_ n2_; (try clear hb); (try clear hb2); (try clear hk); (try clear hi)))
            go_roundg k3
            case measure => have := HJ4.out; have := HK2.out; have := HK3.out; omega
            case rel => exact ⟨(wrap64 (x8_3 - 1)), (x116000_3), (x116001_3), (by first | rfl | (simp; done) | (simp [*]; done)), H', ⟨by have := HJ4.out; have := HK2.out; have := HK3.out; omega⟩, ⟨bA_ BK107⟩, ⟨bA_ BK115⟩, ⟨bB_ HB⟩⟩
          ·rw [if_neg c20] at H
           have c20b0 : decide (0 ≤ x8_3) = false := decide_eq_false c20
           clear c20
           have H' := zA H
           clear H
           go_wp2
           go_roundg k3
           case measure => have := HJ4.out; have := HK2.out; have := HK3.out; omega
           case rel => exact ⟨(wrap64 (x7_2 - 1)), (x116000_3), (x116001_3), (by first | rfl | (simp; done) | (simp [*]; done)), H', ⟨by have := HJ4.out; have := HK2.out; have := HK3.out; omega⟩, ⟨bA_ BK107⟩, ⟨bA_ BK115⟩, ⟨bB_ HB⟩⟩
       ·rw [if_neg c17] at H
        have c17b0 : decide (0 ≤ x7_2) = false := decide_eq_false c17
        clear c17
        by_cases c30 : x116000_2 < 0
        ·rw [if_pos c30] at H
         have c30b0 : decide (x116000_2 < 0) = true := decide_eq_true c30
         clear c30
         obtain ⟨y117, hy117⟩ : ∃ y_ : List (S43), y_ = (([] : List (S43))) := ⟨_, rfl⟩
         replace H : (some (y117, 8)) = some (r1, r2) := by first | (rw [hy117]; with_reducible exact H) | (have H2_ := (Option.bind_some _ _).symm.trans H; rw [hy117]; with_reducible exact H2_) | (have H2_ := (Option.bind_some _ _).symm.trans H; with_reducible exact H2_) | with_reducible exact H | (rw [hy117]; exact H) | exact H
         have Ny117 := zA hy117
         clear hy117
         simp only [Option.some.injEq, Prod.mk.injEq] at H
         obtain ⟨rfl, rfl⟩ := H
         have hnb31 := NB115_107.out
         have hnc31 := NB107_115.out
         have hcz32_0 : wr.cell? ⟨gb115, 0, none⟩ = some (.int .i64 x116000_2) := (blk_cell BK115.out 0).trans rfl
         have hcz32_1 : wr.cell? ⟨gb115, 1, none⟩ = some (.int .i64 x116001_2) := (blk_cell BK115.out 1).trans rfl
         have hfz32_0 := blk_frozen BK115.out 0
         have hfz32_1 := blk_frozen BK115.out 1
         go_wp2_with (first | ((with_reducible refine gate_dst (N := 56) rfl ?_); refine Kd.R_lit k43 _ 43 ?hg (N := 56) ?hd (xs := ([] : List (S43))) (inner := []) (ok := fun _ => True) (okp := fun _ => True) ?hr ?hp (fun _ hk => hk) trivial (Below.refl _ _) (Nat.le_refl _) (by simp) ?_; (case hd => rfl); (case hg => rfl); (case hr => first | (go_simp; done) | (go_simp; rfl)); (case hp => exact (Reps.none _ _)); intro v118 w33 ho34 hb hg_ hnew_; clear hg_ hnew_; (first | rw [← Ny117.out] at ho34 | (simp only [Int.reduceToNat] at ho34; rw [← Ny117.out] at ho34)); have n0_ := zA (Kd.R_lower (Kd.R_newB ho34 (g := gb115) (o := .cells #[.int .i64 x116000_2, .int .i64 x116001_2] 43 (0, 0)) (bA_ BK115)) (zT (bB_ HB))); have n1_ := zA (zU (g := gb107) (o := .cells #[.int .i64 a0_0, .int .i64 a0_1, .slice A0_2 l0_2.length c0_2] 26 (0, 0)) (bA_ BK107) hb); have n2_ := zA (zU (g := gb115) (o := .cells #[.int .i64 x116000_2, .int .i64 x116001_2] 43 (0, 0)) (bA_ BK115) hb); have n3_ := zA (below_step (bB_ HB) hb); clear BK107; clear BK115; clear HB; have HO119 := n0_; have BK107 := n1_; have BK115 := n2_; have HB := n3_; clear n0_ n1_ n2_ n3_; clear hb ho34))
         go_ret2
         exact ⟨_, by first | rfl | (simp [errW_none, errW_some] <;> rfl) | (simp [*, errW_none, errW_some] <;> rfl), by (with_reducible repeat (first | apply zF | apply zE | apply zG)); exact Kd.R_mono HO119.out (fun _ hk => trivial), bB_ HB⟩
        ·rw [if_neg c30] at H
         have c30b0 : decide (x116000_2 < 0) = false := decide_eq_false c30
         clear c30
         obtain ⟨y121, hy121⟩ : ∃ y_ : List (S43), y_ = (([(⟨x116000_2, x116001_2⟩ : S43)] : List (S43))) := ⟨_, rfl⟩
         replace H : (spec_Contour.l2 k2 a1 1 0 y121 a0_0 a0_1 l0_2 x116000_2 x116001_2 x116000_2 x116001_2) = some (r1, r2) := by first | (rw [hy121]; with_reducible exact H) | (have H2_ := (Option.bind_some _ _).symm.trans H; rw [hy121]; with_reducible exact H2_) | (have H2_ := (Option.bind_some _ _).symm.trans H; with_reducible exact H2_) | with_reducible exact H | (rw [hy121]; exact H) | exact H
         have Ny121 := zA hy121
         clear hy121
         have H' := zA H
         clear H
         have hnb35 := NB115_107.out
         have hnc35 := NB107_115.out
         have hcz36_0 : wr.cell? ⟨gb115, 0, none⟩ = some (.int .i64 x116000_2) := (blk_cell BK115.out 0).trans rfl
         have hcz36_1 : wr.cell? ⟨gb115, 1, none⟩ = some (.int .i64 x116001_2) := (blk_cell BK115.out 1).trans rfl
         have hfz36_0 := blk_frozen BK115.out 0
         have hfz36_1 := blk_frozen BK115.out 1
         go_wp2_with (first | ((with_reducible refine gate_dst (N := 11) rfl ?_); refine box_event ?hg (N := 11) ?hd (cs := #[.int .i64 0, .int .i64 0]) (t := 43) ?hr ?_; (case hd => rfl); (case hg => rfl); (case hr => first | (go_simp; done) | (go_simp; rfl)); intro gb120 hg w37 hbox hb; have n0_ := zA (zU (g := gb107) (o := .cells #[.int .i64 a0_0, .int .i64 a0_1, .slice A0_2 l0_2.length c0_2] 26 (0, 0)) (bA_ BK107) hb); have n1_ := zA (zU (g := gb115) (o := .cells #[.int .i64 x116000_2, .int .i64 x116001_2] 43 (0, 0)) (bA_ BK115) hb); have n2_ := zA (below_step (bB_ HB) hb); have n3_ := zA (hbox); have n4_ := zA ((by rw [hg]; exact (zT (bB_ HB)) : w.heap.size ≤ gb120)); have n5_ := zA ((by rw [hg]; exact (zT (bB_ HB)) : w.heap.size ≤ gb120)); have n6_ := zA ((by rw [hg]; exact Nat.ne_of_lt (blk_lt (g := gb107) (o := .cells #[.int .i64 a0_0, .int .i64 a0_1, .slice A0_2 l0_2.length c0_2] 26 (0, 0)) (bA_ BK107)) : gb107 ≠ gb120)); have n7_ := zA ((by rw [hg]; exact Nat.ne_of_gt (blk_lt (g := gb107) (o := .cells #[.int .i64 a0_0, .int .i64 a0_1, .slice A0_2 l0_2.length c0_2] 26 (0, 0)) (bA_ BK107)) : gb120 ≠ gb107)); have n8_ := zA ((by rw [hg]; exact Nat.ne_of_lt (blk_lt (g := gb115) (o := .cells #[.int .i64 x116000_2, .int .i64 x116001_2] 43 (0, 0)) (bA_ BK115)) : gb115 ≠ gb120)); have n9_ := zA ((by rw [hg]; exact Nat.ne_of_gt (blk_lt (g := gb115) (o := .cells #[.int .i64 x116000_2, .int .i64 x116001_2] 43 (0, 0)) (bA_ BK115)) : gb120 ≠ gb115)); clear BK107; clear BK115; clear HB; have BK107 := n0_; have BK115 := n1_; have HB := n2_; have BK120 := n3_; have GW120 := n4_; have GE120 := n5_; have NB107_120 := n6_; have NB120_107 := n7_; have NB115_120 := n8_; have NB120_115 := n9_; clear n0_ n1_ n2_ n3_ n4_ n5_ n6_ n7_ n8_ n9_; clear hb hbox hg; have hnb38 := NB120_107.out; have hnc38 := NB107_120.out; have hnb39 := NB120_115.out; have hnc39 := NB115_120.out; have hcz40_0 : w37.cell? ⟨gb120, 0, none⟩ = some (.int .i64 0) := (blk_cell BK120.out 0).trans rfl; have hcz40_1 : w37.cell? ⟨gb120, 1, none⟩ = some (.int .i64 0) := (blk_cell BK120.out 1).trans rfl; have hfz40_0 := blk_frozen BK120.out 0; have hfz40_1 := blk_frozen BK120.out 1; have hcz41_0 : w37.cell? ⟨gb115, 0, none⟩ = some (.int .i64 x116000_2) := (blk_cell BK115.out 0).trans rfl; have hcz41_1 : w37.cell? ⟨gb115, 1, none⟩ = some (.int .i64 x116001_2) := (blk_cell BK115.out 1).trans rfl; have hfz41_0 := blk_frozen BK115.out 0; have hfz41_1 := blk_frozen BK115.out 1) | ((with_reducible refine gate_dst (N := 59) rfl ?_); refine Kd.R_lit k43 _ 43 ?hg (N := 59) ?hd (xs := ([(⟨x116000_2, x116001_2⟩ : S43)] : List (S43))) (inner := [.int .i64 x116000_2, .int .i64 x116001_2]) (ok := fun _ => True) (okp := fun _ => True) ?hr ?hp (fun _ hk => hk) trivial (Below.refl _ _) (Nat.le_refl _) (by simp) ?_; (case hd => rfl); (case hg => rfl); (case hr => first | (go_simp; done) | (go_simp; rfl)); (case hp => exact (Reps.c2 (show Kd.M k43 _ _ _ (⟨x116000_2, x116001_2⟩ : S43) [.int .i64 x116000_2, .int .i64 x116001_2] from (k43_mkM _ _ _ (⟨x116000_2, x116001_2⟩ : S43) )) (Reps.none _ _))); intro v122 w42 ho43 hb hg_ hnew_; clear hg_ hnew_; (first | rw [← Ny121.out] at ho43 | (simp only [Int.reduceToNat] at ho43; rw [← Ny121.out] at ho43)); have n0_ := zA (Kd.R_lower (Kd.R_newB (Kd.R_newB ho43 (g := gb115) (o := .cells #[.int .i64 x116000_2, .int .i64 x116001_2] 43 (0, 0)) (bD_ BK115)) (g := gb120) (o := .cells #[.int .i64 x116000_2, .int .i64 x116001_2] 43 (0, 0)) (by (with_reducible repeat (first | refine zM ?_ _ | refine zN ?_ | refine zO ?_ _)); refine blk_put (cs := #[.int .i64 x116000_2, .int .i64 0]) ?_ 1 _ rfl; (with_reducible repeat (first | refine zM ?_ _ | refine zN ?_ | refine zO ?_ _)); refine blk_put (cs := #[.int .i64 0, .int .i64 0]) ?_ 0 _ rfl; (with_reducible repeat (first | refine zM ?_ _ | refine zN ?_ | refine zO ?_ _)); exact BK120.out)) (zT (bB_ HB))); have n1_ := zA (zU (g := gb107) (o := .cells #[.int .i64 a0_0, .int .i64 a0_1, .slice A0_2 l0_2.length c0_2] 26 (0, 0)) (bD_ BK107) hb); have n2_ := zA (zU (g := gb115) (o := .cells #[.int .i64 x116000_2, .int .i64 x116001_2] 43 (0, 0)) (bD_ BK115) hb); have n3_ := zA (zU (g := gb120) (o := .cells #[.int .i64 x116000_2, .int .i64 x116001_2] 43 (0, 0)) (by (with_reducible repeat (first | refine zM ?_ _ | refine zN ?_ | refine zO ?_ _)); refine blk_put (cs := #[.int .i64 x116000_2, .int .i64 0]) ?_ 1 _ rfl; (with_reducible repeat (first | refine zM ?_ _ | refine zN ?_ | refine zO ?_ _)); refine blk_put (cs := #[.int .i64 0, .int .i64 0]) ?_ 0 _ rfl; (with_reducible repeat (first | refine zM ?_ _ | refine zN ?_ | refine zO ?_ _)); exact BK120.out) hb); have n4_ := zA (below_step (bB_ HB) hb); clear BK107; clear BK115; clear BK120; clear HB; have HO123 := n0_; have BK107 := n1_; have BK115 := n2_; have BK120 := n3_; have HB := n4_; clear n0_ n1_ n2_ n3_ n4_; clear hb ho43))
         go_loopg [9, 10, 12] k2 (fun kq v9 v10 v12 w' => ∃ (x9_3 : Int) (x10_3 : Int) (x12_3 : List (S43)) (x121000_3 : Int) (x121001_3 : Int), v9 = .int .i64 x9_3 ∧ v10 = .int .i64 x10_3 ∧ Aside0 (spec_Contour.l2 kq a1 x9_3 x10_3 x12_3 a0_0 a0_1 l0_2 x116000_2 x116001_2 x121000_3 x121001_3 = some (r1, r2)) ∧ Aside0 (kq ≤ k2) ∧ Aside0 (Kd.R k43 43 w' w.heap.size (fun k_ => k_ ≠ gb115 ∧ k_ ≠ gb120) v12 x12_3) ∧ Aside0 (w'.heap[gb107]? = some (.cells #[.int .i64 a0_0, .int .i64 a0_1, (.slice A0_2 l0_2.length c0_2)] 26 (0, 0))) ∧ Aside0 (w'.heap[gb115]? = some (.cells #[.int .i64 x116000_2, .int .i64 x116001_2] 43 (0, 0))) ∧ Aside0 (w'.heap[gb120]? = some (.cells #[.int .i64 x121000_3, .int .i64 x121001_3] 43 (0, 0))) ∧ Aside0 (Below w.heap.size w w'))
         case atStart => exact ⟨(1), (0), (y121), (x116000_2), (x116001_2), (by first | rfl | (simp; done) | (simp [*]; done)), (by first | rfl | (simp; done) | (simp [*]; done)), H', ⟨Nat.le_refl _⟩, ⟨by (with_reducible repeat (first | apply zF | apply zE | apply zG)); exact Kd.R_mono HO123.out (fun _ hk => ⟨hk.1.2, hk.2⟩)⟩, ⟨bA_ BK107⟩, ⟨bA_ BK115⟩, ⟨bA_ BK120⟩, ⟨bB_ HB⟩⟩
         case round =>
          clear H'
          try clear c1
          try clear c2
          try clear p2
          try clear c3
          try clear c4
          try clear c5
          try clear p6
          try clear c9
          try clear c9b0
          try clear c10
          try clear c14
          try clear c16
          try clear c17
          try clear c17b0
          try clear c18
          try clear c20
          try clear c20b0
          try clear c22
          try clear c23
          try clear c27
          try clear c30
          try clear c30b0
          try clear c31
          try clear c35
          try clear c38
          try clear c39
          try clear hcz15_0
          try clear hcz15_1
          try clear hcz16_0
          try clear hcz16_1
          try clear hcz16_2
          try clear hcz19_0
          try clear hcz19_1
          try clear hcz19_2
          try clear hcz24_0
          try clear hcz24_1
          try clear hcz24_2
          try clear hcz26_0
          try clear hcz26_1
          try clear hcz28_0
          try clear hcz28_1
          try clear hcz28_2
          try clear hcz32_0
          try clear hcz32_1
          try clear hcz36_0
          try clear hcz36_1
          try clear hcz40_0
          try clear hcz40_1
          try clear hcz41_0
          try clear hcz41_1
          try clear hcz7_0
          try clear hcz7_1
          try clear hcz7_2
          try clear hfz15_0
          try clear hfz15_1
          try clear hfz16_0
          try clear hfz16_1
          try clear hfz16_2
          try clear hfz19_0
          try clear hfz19_1
          try clear hfz19_2
          try clear hfz24_0
          try clear hfz24_1
          try clear hfz24_2
          try clear hfz26_0
          try clear hfz26_1
          try clear hfz28_0
          try clear hfz28_1
          try clear hfz28_2
          try clear hfz32_0
          try clear hfz32_1
          try clear hfz36_0
          try clear hfz36_1
          try clear hfz40_0
          try clear hfz40_1
          try clear hfz41_0
          try clear hfz41_1
          try clear hfz7_0
          try clear hfz7_1
          try clear hfz7_2
          try clear p2
          try clear p6
          obtain ⟨x9_3, x10_3, x12_3, x121000_3, x121001_3, rfl, rfl, HA, HK3, HO_12, BK107, BK115, BK120, HB⟩ := hrel
          cases gk with
          | zero => exact absurd HA.out (by simp [spec_Contour.l2])
          | succ k3 =>
           have H := HA.out
           clear HA
           simp only [spec_Contour.l2] at H
           by_cases c44 : ((wrap64 (x121000_3 + x9_3)) == x116000_2 && ((wrap64 (x121001_3 + x10_3)) == x116001_2)) = true
           ·rw [if_pos c44] at H
            have c44b0 : ((wrap64 (x121000_3 + x9_3)) == x116000_2 && ((wrap64 (x121001_3 + x10_3)) == x116001_2)) = true := c44
            (try (have c44b1 : decide ((wrap64 (x121000_3 + x9_3)) = x116000_2 && ((wrap64 (x121001_3 + x10_3)) == x116001_2)) = true := by simpa using c44))
            (try (have c44b2 : ((wrap64 (x121000_3 + x9_3)) == x116000_2 && ((wrap64 (x121001_3 + x10_3)) == x116001_2)) = true := by simpa using c44))
            clear c44
            simp only [Option.some.injEq, Prod.mk.injEq] at H
            obtain ⟨rfl, rfl⟩ := H
            have hnb45 := NB120_107.out
            have hnc45 := NB107_120.out
            have hnb46 := NB120_115.out
            have hnc46 := NB115_120.out
            have hcz47_0 : wr.cell? ⟨gb120, 0, none⟩ = some (.int .i64 x121000_3) := (blk_cell BK120.out 0).trans rfl
            have hcz47_1 : wr.cell? ⟨gb120, 1, none⟩ = some (.int .i64 x121001_3) := (blk_cell BK120.out 1).trans rfl
            have hfz47_0 := blk_frozen BK120.out 0
            have hfz47_1 := blk_frozen BK120.out 1
            have hnb48 := NB115_107.out
            have hnc48 := NB107_115.out
            have hcz49_0 : wr.cell? ⟨gb115, 0, none⟩ = some (.int .i64 x116000_2) := (blk_cell BK115.out 0).trans rfl
            have hcz49_1 : wr.cell? ⟨gb115, 1, none⟩ = some (.int .i64 x116001_2) := (blk_cell BK115.out 1).trans rfl
            have hfz49_0 := blk_frozen BK115.out 0
            have hfz49_1 := blk_frozen BK115.out 1
            go_wp2
            go_ret2
            exact ⟨_, by first | rfl | (simp [errW_none, errW_some] <;> rfl) | (simp [*, errW_none, errW_some] <;> rfl), by (with_reducible repeat (first | apply zF | apply zE | apply zG)); exact Kd.R_mono (Kd.R_far (p := ⟨gb120, 1, none⟩) (Kd.R_far (p := ⟨gb120, 0, none⟩) (Kd.R_mono HO_12.out (fun k_ hk => (⟨hk, hk.2⟩ : _ ∧ k_ ≠ gb120))) (fun _ hk => hk.2) (.int .i64 (wrap64 (x121000_3 + x9_3)))) (fun _ hk => hk.2) (.int .i64 (wrap64 (x121001_3 + x10_3)))) (fun _ hk => trivial), bB_ HB⟩
           ·rw [if_neg c44] at H
            have c44b0 : ((wrap64 (x121000_3 + x9_3)) == x116000_2 && ((wrap64 (x121001_3 + x10_3)) == x116001_2)) = false := by simpa using c44
            (try (have c44b1 : decide ((wrap64 (x121000_3 + x9_3)) = x116000_2 && ((wrap64 (x121001_3 + x10_3)) == x116001_2)) = false := by simpa using c44))
            (try (have c44b2 : ((wrap64 (x121000_3 + x9_3)) == x116000_2 && ((wrap64 (x121001_3 + x10_3)) == x116001_2)) = false := by simpa using c44))
            (try (have c44b3 : ¬ ((wrap64 (x121000_3 + x9_3)) = x116000_2 && ((wrap64 (x121001_3 + x10_3)) == x116001_2)) := by simpa using c44))
            clear c44
            replace H := Option.bind_eq_some_iff.mp H
            obtain ⟨⟨t124, t125⟩, A500, H⟩ := H
            replace H : ((spec_l11Ahead.f k3 (wrap64 (x121000_3 + x9_3)) (wrap64 (x121001_3 + x10_3)) x9_3 x10_3 false).bind fun bt126 => ((spec_l11Above.f a0_0 a0_1 l0_2 t124 t125 a1).bind fun t128 => (if t128 = true then ((spec_l11Above.f a0_0 a0_1 l0_2 bt126.1 bt126.2 a1).bind fun t129 => (if t129 = true then (if x12_3.length < 8796093022208 then (spec_Contour.l2 k3 a1 x10_3 (wrap64 (-x9_3)) (x12_3 ++ [(⟨wrap64 (x121000_3 + x9_3), wrap64 (x121001_3 + x10_3)⟩ : S43)]) a0_0 a0_1 l0_2 x116000_2 x116001_2 (wrap64 (x121000_3 + x9_3)) (wrap64 (x121001_3 + x10_3))) else (none)) else (spec_Contour.l2 k3 a1 x9_3 x10_3 x12_3 a0_0 a0_1 l0_2 x116000_2 x116001_2 (wrap64 (x121000_3 + x9_3)) (wrap64 (x121001_3 + x10_3))))) else (if x12_3.length < 8796093022208 then (spec_Contour.l2 k3 a1 (wrap64 (-x10_3)) x9_3 (x12_3 ++ [(⟨wrap64 (x121000_3 + x9_3), wrap64 (x121001_3 + x10_3)⟩ : S43)]) a0_0 a0_1 l0_2 x116000_2 x116001_2 (wrap64 (x121000_3 + x9_3)) (wrap64 (x121001_3 + x10_3))) else (none))))) = some (r1, r2) := H
            have A50 := zA A500
            clear A500
            replace H := Option.bind_eq_some_iff.mp H
            obtain ⟨⟨t126, t127⟩, A510, H⟩ := H
            replace H : ((spec_l11Above.f a0_0 a0_1 l0_2 t124 t125 a1).bind fun t128 => (if t128 = true then ((spec_l11Above.f a0_0 a0_1 l0_2 t126 t127 a1).bind fun t129 => (if t129 = true then (if x12_3.length < 8796093022208 then (spec_Contour.l2 k3 a1 x10_3 (wrap64 (-x9_3)) (x12_3 ++ [(⟨wrap64 (x121000_3 + x9_3), wrap64 (x121001_3 + x10_3)⟩ : S43)]) a0_0 a0_1 l0_2 x116000_2 x116001_2 (wrap64 (x121000_3 + x9_3)) (wrap64 (x121001_3 + x10_3))) else (none)) else (spec_Contour.l2 k3 a1 x9_3 x10_3 x12_3 a0_0 a0_1 l0_2 x116000_2 x116001_2 (wrap64 (x121000_3 + x9_3)) (wrap64 (x121001_3 + x10_3))))) else (if x12_3.length < 8796093022208 then (spec_Contour.l2 k3 a1 (wrap64 (-x10_3)) x9_3 (x12_3 ++ [(⟨wrap64 (x121000_3 + x9_3), wrap64 (x121001_3 + x10_3)⟩ : S43)]) a0_0 a0_1 l0_2 x116000_2 x116001_2 (wrap64 (x121000_3 + x9_3)) (wrap64 (x121001_3 + x10_3))) else (none)))) = some (r1, r2) := H
            have A51 := zA A510
            clear A510
            replace H := Option.bind_eq_some_iff.mp H
            obtain ⟨t128, A520, H⟩ := H
            replace H : (if t128 = true then ((spec_l11Above.f a0_0 a0_1 l0_2 t126 t127 a1).bind fun t129 => (if t129 = true then (if x12_3.length < 8796093022208 then (spec_Contour.l2 k3 a1 x10_3 (wrap64 (-x9_3)) (x12_3 ++ [(⟨wrap64 (x121000_3 + x9_3), wrap64 (x121001_3 + x10_3)⟩ : S43)]) a0_0 a0_1 l0_2 x116000_2 x116001_2 (wrap64 (x121000_3 + x9_3)) (wrap64 (x121001_3 + x10_3))) else (none)) else (spec_Contour.l2 k3 a1 x9_3 x10_3 x12_3 a0_0 a0_1 l0_2 x116000_2 x116001_2 (wrap64 (x121000_3 + x9_3)) (wrap64 (x121001_3 + x10_3))))) else (if x12_3.length < 8796093022208 then (spec_Contour.l2 k3 a1 (wrap64 (-x10_3)) x9_3 (x12_3 ++ [(⟨wrap64 (x121000_3 + x9_3), wrap64 (x121001_3 + x10_3)⟩ : S43)]) a0_0 a0_1 l0_2 x116000_2 x116001_2 (wrap64 (x121000_3 + x9_3)) (wrap64 (x121001_3 + x10_3))) else (none))) = some (r1, r2) := H
            have A52 := zA A520
            clear A520
            by_cases c53 : t128 = true
            ·subst c53
             have H1 : ((spec_l11Above.f a0_0 a0_1 l0_2 t126 t127 a1).bind fun t129 => (if t129 = true then (if x12_3.length < 8796093022208 then (spec_Contour.l2 k3 a1 x10_3 (wrap64 (-x9_3)) (x12_3 ++ [(⟨wrap64 (x121000_3 + x9_3), wrap64 (x121001_3 + x10_3)⟩ : S43)]) a0_0 a0_1 l0_2 x116000_2 x116001_2 (wrap64 (x121000_3 + x9_3)) (wrap64 (x121001_3 + x10_3))) else (none)) else (spec_Contour.l2 k3 a1 x9_3 x10_3 x12_3 a0_0 a0_1 l0_2 x116000_2 x116001_2 (wrap64 (x121000_3 + x9_3)) (wrap64 (x121001_3 + x10_3))))) = some (r1, r2) := by rw [if_pos rfl] at H; exact H
             clear H
             have H := H1
             clear H1
             replace H := Option.bind_eq_some_iff.mp H
             obtain ⟨t129, A540, H⟩ := H
             replace H : (if t129 = true then (if x12_3.length < 8796093022208 then (spec_Contour.l2 k3 a1 x10_3 (wrap64 (-x9_3)) (x12_3 ++ [(⟨wrap64 (x121000_3 + x9_3), wrap64 (x121001_3 + x10_3)⟩ : S43)]) a0_0 a0_1 l0_2 x116000_2 x116001_2 (wrap64 (x121000_3 + x9_3)) (wrap64 (x121001_3 + x10_3))) else (none)) else (spec_Contour.l2 k3 a1 x9_3 x10_3 x12_3 a0_0 a0_1 l0_2 x116000_2 x116001_2 (wrap64 (x121000_3 + x9_3)) (wrap64 (x121001_3 + x10_3)))) = some (r1, r2) := H
             have A54 := zA A540
             clear A540
             by_cases c55 : t129 = true
             ·subst c55
              have H1 : (if x12_3.length < 8796093022208 then (spec_Contour.l2 k3 a1 x10_3 (wrap64 (-x9_3)) (x12_3 ++ [(⟨wrap64 (x121000_3 + x9_3), wrap64 (x121001_3 + x10_3)⟩ : S43)]) a0_0 a0_1 l0_2 x116000_2 x116001_2 (wrap64 (x121000_3 + x9_3)) (wrap64 (x121001_3 + x10_3))) else (none)) = some (r1, r2) := by rw [if_pos rfl] at H; exact H
              clear H
              have H := H1
              clear H1
              by_cases c56 : x12_3.length < 8796093022208
              ·rw [if_pos c56] at H
               have LMc56 := zA c56
               clear c56
               obtain ⟨y130, hy130⟩ : ∃ y_ : List (S43), y_ = (x12_3 ++ [(⟨wrap64 (x121000_3 + x9_3), wrap64 (x121001_3 + x10_3)⟩ : S43)]) := ⟨_, rfl⟩
               replace H : (spec_Contour.l2 k3 a1 x10_3 (wrap64 (-x9_3)) y130 a0_0 a0_1 l0_2 x116000_2 x116001_2 (wrap64 (x121000_3 + x9_3)) (wrap64 (x121001_3 + x10_3))) = some (r1, r2) := by first | (rw [hy130]; with_reducible exact H) | (have H2_ := (Option.bind_some _ _).symm.trans H; rw [hy130]; with_reducible exact H2_) | (have H2_ := (Option.bind_some _ _).symm.trans H; with_reducible exact H2_) | with_reducible exact H | (rw [hy130]; exact H) | exact H
               have Ny130 := zA hy130
               clear hy130
               have H' := zA H
               clear H
               have hnb57 := NB120_107.out
               have hnc57 := NB107_120.out
               have hnb58 := NB120_115.out
               have hnc58 := NB115_120.out
               have hcz59_0 : wr.cell? ⟨gb120, 0, none⟩ = some (.int .i64 x121000_3) := (blk_cell BK120.out 0).trans rfl
               have hcz59_1 : wr.cell? ⟨gb120, 1, none⟩ = some (.int .i64 x121001_3) := (blk_cell BK120.out 1).trans rfl
               have hfz59_0 := blk_frozen BK120.out 0
               have hfz59_1 := blk_frozen BK120.out 1
               have hnb60 := NB115_107.out
               have hnc60 := NB107_115.out
               have hcz61_0 : wr.cell? ⟨gb115, 0, none⟩ = some (.int .i64 x116000_2) := (blk_cell BK115.out 0).trans rfl
               have hcz61_1 : wr.cell? ⟨gb115, 1, none⟩ = some (.int .i64 x116001_2) := (blk_cell BK115.out 1).trans rfl
               have hfz61_0 := blk_frozen BK115.out 0
               have hfz61_1 := blk_frozen BK115.out 1
               go_wp2_with (first | ((with_reducible refine gate_callee (f := 52) rfl ?_); refine goesL_ (some 77) rfl rfl Try.func52 (by kernel_rfl) rfl #[.agg #[.int .i64 (wrap64 (x121000_3 + x9_3)), .int .i64 (wrap64 (x121001_3 + x10_3))], .int .i64 x9_3, .int .i64 x10_3, .bool true] rfl (by (try simp only [List.map_toArray, List.map_cons, List.map_nil]); first | done | rfl | (simp only [List.length_drop, List.length_take]; rfl)) ?_; (with_reducible refine (spec_l11Ahead.calls k3 (wrap64 (x121000_3 + x9_3)) (wrap64 (x121001_3 + x10_3)) x9_3 x10_3 true t124 t125 _ A50.out).mono ?_); rintro e w62 ⟨rfl, hb⟩; refine ⟨_, rfl, ?_⟩; have n0_ := zA (zL (by (with_reducible repeat (first | apply zF | apply zE | apply zG)); exact (Kd.R_mono (Kd.R_far (p := ⟨gb120, 1, none⟩) (Kd.R_far (p := ⟨gb120, 0, none⟩) (Kd.R_mono HO_12.out (fun k_ hk => (⟨hk, hk.2⟩ : _ ∧ k_ ≠ gb120))) (fun _ hk => hk.2) (.int .i64 (wrap64 (x121000_3 + x9_3)))) (fun _ hk => hk.2) (.int .i64 (wrap64 (x121001_3 + x10_3)))) (fun _ h_ => h_.1))) hb); have n1_ := zA (zU (g := gb107) (o := .cells #[.int .i64 a0_0, .int .i64 a0_1, .slice A0_2 l0_2.length c0_2] 26 (0, 0)) (bD_ BK107) hb); have n2_ := zA (zU (g := gb115) (o := .cells #[.int .i64 x116000_2, .int .i64 x116001_2] 43 (0, 0)) (bD_ BK115) hb); have n3_ := zA (zU (g := gb120) (o := .cells #[.int .i64 (wrap64 (x121000_3 + x9_3)), .int .i64 (wrap64 (x121001_3 + x10_3))] 43 (0, 0)) (by (with_reducible repeat (first | refine zM ?_ _ | refine zN ?_ | refine zO ?_ _)); refine blk_put (cs := #[.int .i64 (wrap64 (x121000_3 + x9_3)), .int .i64 x121001_3]) ?_ 1 _ rfl; (with_reducible repeat (first | refine zM ?_ _ | refine zN ?_ | refine zO ?_ _)); refine blk_put (cs := #[.int .i64 x121000_3, .int .i64 x121001_3]) ?_ 0 _ rfl; (with_reducible repeat (first | refine zM ?_ _ | refine zN ?_ | refine zO ?_ _)); exact BK120.out) hb); have n4_ := zA (below_step (bB_ HB) hb); clear HO_12; clear BK107; clear BK115; clear BK120; clear HB; have HO_12 := n0_; have BK107 := n1_; have BK115 := n2_; have BK120 := n3_; have HB := n4_; clear n0_ n1_ n2_ n3_ n4_; (try clear hb); (try clear hb2); (try clear hk); (try clear hi); have hcz63_0 : w62.cell? ⟨gb120, 0, none⟩ = some (.int .i64 (wrap64 (x121000_3 + x9_3))) := (blk_cell BK120.out 0).trans rfl; have hcz63_1 : w62.cell? ⟨gb120, 1, none⟩ = some (.int .i64 (wrap64 (x121001_3 + x10_3))) := (blk_cell BK120.out 1).trans rfl; have hfz63_0 := blk_frozen BK120.out 0; have hfz63_1 := blk_frozen BK120.out 1) | ((with_reducible refine gate_callee (f := 52) rfl ?_); refine goesL_ (some 84) rfl rfl Try.func52 (by kernel_rfl) rfl #[.agg #[.int .i64 (wrap64 (x121000_3 + x9_3)), .int .i64 (wrap64 (x121001_3 + x10_3))], .int .i64 x9_3, .int .i64 x10_3, .bool false] rfl (by (try simp only [List.map_toArray, List.map_cons, List.map_nil]); first | done | rfl | (simp only [List.length_drop, List.length_take]; rfl)) ?_; (with_reducible refine (spec_l11Ahead.calls k3 (wrap64 (x121000_3 + x9_3)) (wrap64 (x121001_3 + x10_3)) x9_3 x10_3 false t126 t127 _ A51.out).mono ?_); rintro e w64 ⟨rfl, hb⟩; refine ⟨_, rfl, ?_⟩; have n0_ := zA (zL (bC_ HO_12) hb); have n1_ := zA (zU (g := gb107) (o := .cells #[.int .i64 a0_0, .int .i64 a0_1, .slice A0_2 l0_2.length c0_2] 26 (0, 0)) (bA_ BK107) hb); have n2_ := zA (zU (g := gb115) (o := .cells #[.int .i64 x116000_2, .int .i64 x116001_2] 43 (0, 0)) (bA_ BK115) hb); have n3_ := zA (zU (g := gb120) (o := .cells #[.int .i64 (wrap64 (x121000_3 + x9_3)), .int .i64 (wrap64 (x121001_3 + x10_3))] 43 (0, 0)) (bA_ BK120) hb); have n4_ := zA (below_step (bB_ HB) hb); clear HO_12; clear BK107; clear BK115; clear BK120; clear HB; have HO_12 := n0_; have BK107 := n1_; have BK115 := n2_; have BK120 := n3_; have HB := n4_; clear n0_ n1_ n2_ n3_ n4_; (try clear hb); (try clear hb2); (try clear hk); (try clear hi); have hcz65_0 : w64.cell? ⟨gb107, 0, none⟩ = some (.int .i64 a0_0) := (blk_cell BK107.out 0).trans rfl; have hcz65_1 : w64.cell? ⟨gb107, 1, none⟩ = some (.int .i64 a0_1) := (blk_cell BK107.out 1).trans rfl; have hcz65_2 : w64.cell? ⟨gb107, 2, none⟩ = some (.slice A0_2 l0_2.length c0_2) := (blk_cell BK107.out 2).trans rfl; have hfz65_0 := blk_frozen BK107.out 0; have hfz65_1 := blk_frozen BK107.out 1; have hfz65_2 := blk_frozen BK107.out 2) | ((with_reducible refine gate_callee (f := 51) rfl ?_); refine goesL_ (some 92) rfl rfl Try.func51 (by kernel_rfl) rfl #[.agg #[.int .i64 a0_0, .int .i64 a0_1, .slice A0_2 l0_2.length c0_2], .int .i64 t124, .int .i64 t125, .int .i64 a1] rfl (by (try simp only [List.map_toArray, List.map_cons, List.map_nil]); first | done | rfl | (simp only [List.length_drop, List.length_take]; rfl)) ?_; (with_reducible refine (spec_l11Above.calls a0_0 a0_1 _ _ l0_2 t124 t125 a1 true _ ?side1 ?side2 A52.out).mono ?_); (case side1 => repeat (first | exact (Kd.C_below HR0_2.out HB.out) | (with_reducible refine zI ?_ _) | (with_reducible refine zH ?_ _) | (with_reducible refine zJ ?_))); (case side2 => exact HC0_2.out); rintro e w66 ⟨rfl, hb⟩; refine ⟨_, rfl, ?_⟩; have n0_ := zA (zL (bC_ HO_12) hb); have n1_ := zA (zU (g := gb107) (o := .cells #[.int .i64 a0_0, .int .i64 a0_1, .slice A0_2 l0_2.length c0_2] 26 (0, 0)) (bA_ BK107) hb); have n2_ := zA (zU (g := gb115) (o := .cells #[.int .i64 x116000_2, .int .i64 x116001_2] 43 (0, 0)) (bA_ BK115) hb); have n3_ := zA (zU (g := gb120) (o := .cells #[.int .i64 (wrap64 (x121000_3 + x9_3)), .int .i64 (wrap64 (x121001_3 + x10_3))] 43 (0, 0)) (bA_ BK120) hb); have n4_ := zA (below_step (bB_ HB) hb); clear HO_12; clear BK107; clear BK115; clear BK120; clear HB; have HO_12 := n0_; have BK107 := n1_; have BK115 := n2_; have BK120 := n3_; have HB := n4_; clear n0_ n1_ n2_ n3_ n4_; (try clear hb); (try clear hb2); (try clear hk); (try clear hi); have hcz67_0 : w66.cell? ⟨gb107, 0, none⟩ = some (.int .i64 a0_0) := (blk_cell BK107.out 0).trans rfl; have hcz67_1 : w66.cell? ⟨gb107, 1, none⟩ = some (.int .i64 a0_1) := (blk_cell BK107.out 1).trans rfl; have hcz67_2 : w66.cell? ⟨gb107, 2, none⟩ = some (.slice A0_2 l0_2.length c0_2) := (blk_cell BK107.out 2).trans rfl; have hfz67_0 := blk_frozen BK107.out 0; have hfz67_1 := blk_frozen BK107.out 1; have hfz67_2 := blk_frozen BK107.out 2) | ((with_reducible refine gate_callee (f := 51) rfl ?_); refine goesL_ (some 107) rfl rfl Try.func51 (by kernel_rfl) rfl #[.agg #[.int .i64 a0_0, .int .i64 a0_1, .slice A0_2 l0_2.length c0_2], .int .i64 t126, .int .i64 t127, .int .i64 a1] rfl (by (try simp only [List.map_toArray, List.map_cons, List.map_nil]); first | done | rfl | (simp only [List.length_drop, List.length_take]; rfl)) ?_; (with_reducible refine (spec_l11Above.calls a0_0 a0_1 _ _ l0_2 t126 t127 a1 true _ ?side1 ?side2 A54.out).mono ?_); (case side1 => repeat (first | exact (Kd.C_below HR0_2.out HB.out) | (with_reducible refine zI ?_ _) | (with_reducible refine zH ?_ _) | (with_reducible refine zJ ?_))); (case side2 => exact HC0_2.out); rintro e w68 ⟨rfl, hb⟩; refine ⟨_, rfl, ?_⟩; have n0_ := zA (zL (bC_ HO_12) hb); have n1_ := zA (zU (g := gb107) (o := .cells #[.int .i64 a0_0, .int .i64 a0_1, .slice A0_2 l0_2.length c0_2] 26 (0, 0)) (bA_ BK107) hb); have n2_ := zA (zU (g := gb115) (o := .cells #[.int .i64 x116000_2, .int .i64 x116001_2] 43 (0, 0)) (bA_ BK115) hb); have n3_ := zA (zU (g := gb120) (o := .cells #[.int .i64 (wrap64 (x121000_3 + x9_3)), .int .i64 (wrap64 (x121001_3 + x10_3))] 43 (0, 0)) (bA_ BK120) hb); have n4_ := zA (below_step (bB_ HB) hb); clear HO_12; clear BK107; clear BK115; clear BK120; clear HB; have HO_12 := n0_; have BK107 := n1_; have BK115 := n2_; have BK120 := n3_; have HB := n4_; clear n0_ n1_ n2_ n3_ n4_; (try clear hb); (try clear hb2); (try clear hk); (try clear hi); have hcz69_0 : w68.cell? ⟨gb120, 0, none⟩ = some (.int .i64 (wrap64 (x121000_3 + x9_3))) := (blk_cell BK120.out 0).trans rfl; have hcz69_1 : w68.cell? ⟨gb120, 1, none⟩ = some (.int .i64 (wrap64 (x121001_3 + x10_3))) := (blk_cell BK120.out 1).trans rfl; have hfz69_0 := blk_frozen BK120.out 0; have hfz69_1 := blk_frozen BK120.out 1) | ((with_reducible refine gate_builtin (b := .append) (xs := #[.tmp 112, .tmp 114]) rfl ?_); at_builtin; refine Kd.R_append k43 (w0 := w) w.heap.size rfl (.tmp 112) (.tmp 114) 33 43 (.agg #[(.int .i64 0), (.int .i64 0)]) 16 rfl Try.underlying33 info43 rfl (by decide) (by omega) u12 x12_3 (⟨wrap64 (x121000_3 + x9_3), wrap64 (x121001_3 + x10_3)⟩ : S43) [.int .i64 (wrap64 (x121000_3 + x9_3)), .int .i64 (wrap64 (x121001_3 + x10_3))] (fun k_ => k_ ≠ gb115 ∧ k_ ≠ gb120) (fun _ => False) rfl rfl ?aP (fun _ hk => hk.elim) ?aF ?aO ?aB ?aS ?aL ?_; (case aP => exact k43_mkM _ _ _ (⟨wrap64 (x121000_3 + x9_3), wrap64 (x121001_3 + x10_3)⟩ : S43)); (case aB => exact (bB_ HB)); (case aF => exact (fun k_ hk => ⟨Kd.freshB (g := gb115) (o := .cells #[.int .i64 x116000_2, .int .i64 x116001_2] 43 (0, 0)) (bA_ BK115) k_ hk, Kd.freshB (g := gb120) (o := .cells #[.int .i64 (wrap64 (x121000_3 + x9_3)), .int .i64 (wrap64 (x121001_3 + x10_3))] 43 (0, 0)) (bA_ BK120) k_ hk⟩)); (case aO => exact (bC_ HO_12)); (case aS => exact (zT (bB_ HB))); (case aL => have := LMc56.out; omega); intro v131 w70 ho hb hg hat; rw [← Ny130.out] at ho; have n0_ := zA (blk_grown (g := gb107) (o := .cells #[.int .i64 a0_0, .int .i64 a0_1, .slice A0_2 l0_2.length c0_2] 26 (0, 0)) (bA_ BK107) hg (Kd.R_ne HO_12.out BK107.out (by decide))); have n1_ := zA (blk_grown (g := gb115) (o := .cells #[.int .i64 x116000_2, .int .i64 x116001_2] 43 (0, 0)) (bA_ BK115) hg (Kd.R_away HO_12.out (fun _ hk => hk.1))); have n2_ := zA (blk_grown (g := gb120) (o := .cells #[.int .i64 (wrap64 (x121000_3 + x9_3)), .int .i64 (wrap64 (x121001_3 + x10_3))] 43 (0, 0)) (bA_ BK120) hg (Kd.R_away HO_12.out (fun _ hk => hk.2))); have n3_ := zA (hb); have n4_ := zA (ho); clear BK107; clear BK115; clear BK120; clear HB; clear HO_12; have BK107 := n0_; have BK115 := n1_; have BK120 := n2_; have HB := n3_; have HO132 := n4_; clear n0_ n1_ n2_ n3_ n4_; clear ho hb hg hat))
               go_roundg k3
               case measure => have := HJ4.out; have := HK2.out; have := HK3.out; omega
               case rel => exact ⟨(x10_3), (wrap64 (-x9_3)), (y130), (wrap64 (x121000_3 + x9_3)), (wrap64 (x121001_3 + x10_3)), (by first | rfl | (simp; done) | (simp [*]; done)), (by first | rfl | (simp; done) | (simp [*]; done)), H', ⟨by have := HJ4.out; have := HK2.out; have := HK3.out; omega⟩, ⟨bC_ HO132⟩, ⟨bA_ BK107⟩, ⟨bA_ BK115⟩, ⟨bA_ BK120⟩, ⟨bB_ HB⟩⟩
              ·rw [if_neg c56] at H
               exact absurd H (by simp)
             ·replace c55 := Bool.eq_false_iff.mpr c55
              subst c55
              have H1 : (spec_Contour.l2 k3 a1 x9_3 x10_3 x12_3 a0_0 a0_1 l0_2 x116000_2 x116001_2 (wrap64 (x121000_3 + x9_3)) (wrap64 (x121001_3 + x10_3))) = some (r1, r2) := by rw [if_neg (show ¬ (false = true) by decide)] at H; exact H
              clear H
              have H := H1
              clear H1
              have H' := zA H
              clear H
              have hnb71 := NB120_107.out
              have hnc71 := NB107_120.out
              have hnb72 := NB120_115.out
              have hnc72 := NB115_120.out
              have hcz73_0 : wr.cell? ⟨gb120, 0, none⟩ = some (.int .i64 x121000_3) := (blk_cell BK120.out 0).trans rfl
              have hcz73_1 : wr.cell? ⟨gb120, 1, none⟩ = some (.int .i64 x121001_3) := (blk_cell BK120.out 1).trans rfl
              have hfz73_0 := blk_frozen BK120.out 0
              have hfz73_1 := blk_frozen BK120.out 1
              have hnb74 := NB115_107.out
              have hnc74 := NB107_115.out
              have hcz75_0 : wr.cell? ⟨gb115, 0, none⟩ = some (.int .i64 x116000_2) := (blk_cell BK115.out 0).trans rfl
              have hcz75_1 : wr.cell? ⟨gb115, 1, none⟩ = some (.int .i64 x116001_2) := (blk_cell BK115.out 1).trans rfl
              have hfz75_0 := blk_frozen BK115.out 0
              have hfz75_1 := blk_frozen BK115.out 1
              go_wp2_with (first | ((with_reducible refine gate_callee (f := 52) rfl ?_); refine goesL_ (some 77) rfl rfl Try.func52 (by kernel_rfl) rfl #[.agg #[.int .i64 (wrap64 (x121000_3 + x9_3)), .int .i64 (wrap64 (x121001_3 + x10_3))], .int .i64 x9_3, .int .i64 x10_3, .bool true] rfl (by (try simp only [List.map_toArray, List.map_cons, List.map_nil]); first | done | rfl | (simp only [List.length_drop, List.length_take]; rfl)) ?_; (with_reducible refine (spec_l11Ahead.calls k3 (wrap64 (x121000_3 + x9_3)) (wrap64 (x121001_3 + x10_3)) x9_3 x10_3 true t124 t125 _ A50.out).mono ?_); rintro e w76 ⟨rfl, hb⟩; refine ⟨_, rfl, ?_⟩; have n0_ := zA (zL (by (with_reducible repeat (first | apply zF | apply zE | apply zG)); exact (Kd.R_mono (Kd.R_far (p := ⟨gb120, 1, none⟩) (Kd.R_far (p := ⟨gb120, 0, none⟩) (Kd.R_mono HO_12.out (fun k_ hk => (⟨hk, hk.2⟩ : _ ∧ k_ ≠ gb120))) (fun _ hk => hk.2) (.int .i64 (wrap64 (x121000_3 + x9_3)))) (fun _ hk => hk.2) (.int .i64 (wrap64 (x121001_3 + x10_3)))) (fun _ h_ => h_.1))) hb); have n1_ := zA (zU (g := gb107) (o := .cells #[.int .i64 a0_0, .int .i64 a0_1, .slice A0_2 l0_2.length c0_2] 26 (0, 0)) (bD_ BK107) hb); have n2_ := zA (zU (g := gb115) (o := .cells #[.int .i64 x116000_2, .int .i64 x116001_2] 43 (0, 0)) (bD_ BK115) hb); have n3_ := zA (zU (g := gb120) (o := .cells #[.int .i64 (wrap64 (x121000_3 + x9_3)), .int .i64 (wrap64 (x121001_3 + x10_3))] 43 (0, 0)) (by (with_reducible repeat (first | refine zM ?_ _ | refine zN ?_ | refine zO ?_ _)); refine blk_put (cs := #[.int .i64 (wrap64 (x121000_3 + x9_3)), .int .i64 x121001_3]) ?_ 1 _ rfl; (with_reducible repeat (first | refine zM ?_ _ | refine zN ?_ | refine zO ?_ _)); refine blk_put (cs := #[.int .i64 x121000_3, .int .i64 x121001_3]) ?_ 0 _ rfl; (with_reducible repeat (first | refine zM ?_ _ | refine zN ?_ | refine zO ?_ _)); exact BK120.out) hb); have n4_ := zA (below_step (bB_ HB) hb); clear HO_12; clear BK107; clear BK115; clear BK120; clear HB; have HO_12 := n0_; have BK107 := n1_; have BK115 := n2_; have BK120 := n3_; have HB := n4_; clear n0_ n1_ n2_ n3_ n4_; (try clear hb); (try clear hb2); (try clear hk); (try clear hi); have hcz77_0 : w76.cell? ⟨gb120, 0, none⟩ = some (.int .i64 (wrap64 (x121000_3 + x9_3))) := (blk_cell BK120.out 0).trans rfl; have hcz77_1 : w76.cell? ⟨gb120, 1, none⟩ = some (.int .i64 (wrap64 (x121001_3 + x10_3))) := (blk_cell BK120.out 1).trans rfl; have hfz77_0 := blk_frozen BK120.out 0; have hfz77_1 := blk_frozen BK120.out 1) | ((with_reducible refine gate_callee (f := 52) rfl ?_); refine goesL_ (some 84) rfl rfl Try.func52 (by kernel_rfl) rfl #[.agg #[.int .i64 (wrap64 (x121000_3 + x9_3)), .int .i64 (wrap64 (x121001_3 + x10_3))], .int .i64 x9_3, .int .i64 x10_3, .bool false] rfl (by (try simp only [List.map_toArray, List.map_cons, List.map_nil]); first | done | rfl | (simp only [List.length_drop, List.length_take]; rfl)) ?_; (with_reducible refine (spec_l11Ahead.calls k3 (wrap64 (x121000_3 + x9_3)) (wrap64 (x121001_3 + x10_3)) x9_3 x10_3 false t126 t127 _ A51.out).mono ?_); rintro e w78 ⟨rfl, hb⟩; refine ⟨_, rfl, ?_⟩; have n0_ := zA (zL (bC_ HO_12) hb); have n1_ := zA (zU (g := gb107) (o := .cells #[.int .i64 a0_0, .int .i64 a0_1, .slice A0_2 l0_2.length c0_2] 26 (0, 0)) (bA_ BK107) hb); have n2_ := zA (zU (g := gb115) (o := .cells #[.int .i64 x116000_2, .int .i64 x116001_2] 43 (0, 0)) (bA_ BK115) hb); have n3_ := zA (zU (g := gb120) (o := .cells #[.int .i64 (wrap64 (x121000_3 + x9_3)), .int .i64 (wrap64 (x121001_3 + x10_3))] 43 (0, 0)) (bA_ BK120) hb); have n4_ := zA (below_step (bB_ HB) hb); clear HO_12; clear BK107; clear BK115; clear BK120; clear HB; have HO_12 := n0_; have BK107 := n1_; have BK115 := n2_; have BK120 := n3_; have HB := n4_; clear n0_ n1_ n2_ n3_ n4_; (try clear hb); (try clear hb2); (try clear hk); (try clear hi); have hcz79_0 : w78.cell? ⟨gb107, 0, none⟩ = some (.int .i64 a0_0) := (blk_cell BK107.out 0).trans rfl; have hcz79_1 : w78.cell? ⟨gb107, 1, none⟩ = some (.int .i64 a0_1) := (blk_cell BK107.out 1).trans rfl; have hcz79_2 : w78.cell? ⟨gb107, 2, none⟩ = some (.slice A0_2 l0_2.length c0_2) := (blk_cell BK107.out 2).trans rfl; have hfz79_0 := blk_frozen BK107.out 0; have hfz79_1 := blk_frozen BK107.out 1; have hfz79_2 := blk_frozen BK107.out 2) | ((with_reducible refine gate_callee (f := 51) rfl ?_); refine goesL_ (some 92) rfl rfl Try.func51 (by kernel_rfl) rfl #[.agg #[.int .i64 a0_0, .int .i64 a0_1, .slice A0_2 l0_2.length c0_2], .int .i64 t124, .int .i64 t125, .int .i64 a1] rfl (by (try simp only [List.map_toArray, List.map_cons, List.map_nil]); first | done | rfl | (simp only [List.length_drop, List.length_take]; rfl)) ?_; (with_reducible refine (spec_l11Above.calls a0_0 a0_1 _ _ l0_2 t124 t125 a1 true _ ?side1 ?side2 A52.out).mono ?_); (case side1 => repeat (first | exact (Kd.C_below HR0_2.out HB.out) | (with_reducible refine zI ?_ _) | (with_reducible refine zH ?_ _) | (with_reducible refine zJ ?_))); (case side2 => exact HC0_2.out); rintro e w80 ⟨rfl, hb⟩; refine ⟨_, rfl, ?_⟩; have n0_ := zA (zL (bC_ HO_12) hb); have n1_ := zA (zU (g := gb107) (o := .cells #[.int .i64 a0_0, .int .i64 a0_1, .slice A0_2 l0_2.length c0_2] 26 (0, 0)) (bA_ BK107) hb); have n2_ := zA (zU (g := gb115) (o := .cells #[.int .i64 x116000_2, .int .i64 x116001_2] 43 (0, 0)) (bA_ BK115) hb); have n3_ := zA (zU (g := gb120) (o := .cells #[.int .i64 (wrap64 (x121000_3 + x9_3)), .int .i64 (wrap64 (x121001_3 + x10_3))] 43 (0, 0)) (bA_ BK120) hb); have n4_ := zA (below_step (bB_ HB) hb); clear HO_12; clear BK107; clear BK115; clear BK120; clear HB; have HO_12 := n0_; have BK107 := n1_; have BK115 := n2_; have BK120 := n3_; have HB := n4_; clear n0_ n1_ n2_ n3_ n4_; (try clear hb); (try clear hb2); (try clear hk); (try clear hi); have hcz81_0 : w80.cell? ⟨gb107, 0, none⟩ = some (.int .i64 a0_0) := (blk_cell BK107.out 0).trans rfl; have hcz81_1 : w80.cell? ⟨gb107, 1, none⟩ = some (.int .i64 a0_1) := (blk_cell BK107.out 1).trans rfl; have hcz81_2 : w80.cell? ⟨gb107, 2, none⟩ = some (.slice A0_2 l0_2.length c0_2) := (blk_cell BK107.out 2).trans rfl; have hfz81_0 := blk_frozen BK107.out 0; have hfz81_1 := blk_frozen BK107.out 1; have hfz81_2 := blk_frozen BK107.out 2) | ((with_reducible refine gate_callee (f := 51) rfl ?_); refine goesL_ (some 107) rfl rfl Try.func51 (by kernel_rfl) rfl #[.agg #[.int .i64 a0_0, .int .i64 a0_1, .slice A0_2 l0_2.length c0_2], .int .i64 t126, .int .i64 t127, .int .i64 a1] rfl (by (try simp only [List.map_toArray, List.map_cons, List.map_nil]); first | done | rfl | (simp only [List.length_drop, List.length_take]; rfl)) ?_; (with_reducible refine (spec_l11Above.calls a0_0 a0_1 _ _ l0_2 t126 t127 a1 false _ ?side1 ?side2 A54.out).mono ?_); (case side1 => repeat (first | exact (Kd.C_below HR0_2.out HB.out) | (with_reducible refine zI ?_ _) | (with_reducible refine zH ?_ _) | (with_reducible refine zJ ?_))); (case side2 => exact HC0_2.out); rintro e w82 ⟨rfl, hb⟩; refine ⟨_, rfl, ?_⟩; have n0_ := zA (zL (bC_ HO_12) hb); have n1_ := zA (zU (g := gb107) (o := .cells #[.int .i64 a0_0, .int .i64 a0_1, .slice A0_2 l0_2.length c0_2] 26 (0, 0)) (bA_ BK107) hb); have n2_ := zA (zU (g := gb115) (o := .cells #[.int .i64 x116000_2, .int .i64 x116001_2] 43 (0, 0)) (bA_ BK115) hb); have n3_ := zA (zU (g := gb120) (o := .cells #[.int .i64 (wrap64 (x121000_3 + x9_3)), .int .i64 (wrap64 (x121001_3 + x10_3))] 43 (0, 0)) (bA_ BK120) hb); have n4_ := zA (below_step (bB_ HB) hb); clear HO_12; clear BK107; clear BK115; clear BK120; clear HB; have HO_12 := n0_; have BK107 := n1_; have BK115 := n2_; have BK120 := n3_; have HB := n4_; clear n0_ n1_ n2_ n3_ n4_; (try clear hb); (try clear hb2); (try clear hk); (try clear hi)))
              go_roundg k3
              case measure => have := HJ4.out; have := HK2.out; have := HK3.out; omega
              case rel => exact ⟨(x9_3), (x10_3), (x12_3), (wrap64 (x121000_3 + x9_3)), (wrap64 (x121001_3 + x10_3)), (by first | rfl | (simp; done) | (simp [*]; done)), (by first | rfl | (simp; done) | (simp [*]; done)), H', ⟨by have := HJ4.out; have := HK2.out; have := HK3.out; omega⟩, ⟨bC_ HO_12⟩, ⟨bA_ BK107⟩, ⟨bA_ BK115⟩, ⟨bA_ BK120⟩, ⟨bB_ HB⟩⟩
            ·replace c53 := Bool.eq_false_iff.mpr c53
             subst c53
             have H1 : (if x12_3.length < 8796093022208 then (spec_Contour.l2 k3 a1 (wrap64 (-x10_3)) x9_3 (x12_3 ++ [(⟨wrap64 (x121000_3 + x9_3), wrap64 (x121001_3 + x10_3)⟩ : S43)]) a0_0 a0_1 l0_2 x116000_2 x116001_2 (wrap64 (x121000_3 + x9_3)) (wrap64 (x121001_3 + x10_3))) else (none)) = some (r1, r2) := by rw [if_neg (show ¬ (false = true) by decide)] at H; exact H
             clear H
             have H := H1
             clear H1
             by_cases c83 : x12_3.length < 8796093022208
             ·rw [if_pos c83] at H
              have LMc83 := zA c83
              clear c83
              obtain ⟨y133, hy133⟩ : ∃ y_ : List (S43), y_ = (x12_3 ++ [(⟨wrap64 (x121000_3 + x9_3), wrap64 (x121001_3 + x10_3)⟩ : S43)]) := ⟨_, rfl⟩
              replace H : (spec_Contour.l2 k3 a1 (wrap64 (-x10_3)) x9_3 y133 a0_0 a0_1 l0_2 x116000_2 x116001_2 (wrap64 (x121000_3 + x9_3)) (wrap64 (x121001_3 + x10_3))) = some (r1, r2) := by first | (rw [hy133]; with_reducible exact H) | (have H2_ := (Option.bind_some _ _).symm.trans H; rw [hy133]; with_reducible exact H2_) | (have H2_ := (Option.bind_some _ _).symm.trans H; with_reducible exact H2_) | with_reducible exact H | (rw [hy133]; exact H) | exact H
              have Ny133 := zA hy133
              clear hy133
              have H' := zA H
              clear H
              have hnb84 := NB120_107.out
              have hnc84 := NB107_120.out
              have hnb85 := NB120_115.out
              have hnc85 := NB115_120.out
              have hcz86_0 : wr.cell? ⟨gb120, 0, none⟩ = some (.int .i64 x121000_3) := (blk_cell BK120.out 0).trans rfl
              have hcz86_1 : wr.cell? ⟨gb120, 1, none⟩ = some (.int .i64 x121001_3) := (blk_cell BK120.out 1).trans rfl
              have hfz86_0 := blk_frozen BK120.out 0
              have hfz86_1 := blk_frozen BK120.out 1
              have hnb87 := NB115_107.out
              have hnc87 := NB107_115.out
              have hcz88_0 : wr.cell? ⟨gb115, 0, none⟩ = some (.int .i64 x116000_2) := (blk_cell BK115.out 0).trans rfl
              have hcz88_1 : wr.cell? ⟨gb115, 1, none⟩ = some (.int .i64 x116001_2) := (blk_cell BK115.out 1).trans rfl
              have hfz88_0 := blk_frozen BK115.out 0
              have hfz88_1 := blk_frozen BK115.out 1
              go_wp2_with (first | ((with_reducible refine gate_callee (f := 52) rfl ?_); refine goesL_ (some 77) rfl rfl Try.func52 (by kernel_rfl) rfl #[.agg #[.int .i64 (wrap64 (x121000_3 + x9_3)), .int .i64 (wrap64 (x121001_3 + x10_3))], .int .i64 x9_3, .int .i64 x10_3, .bool true] rfl (by (try simp only [List.map_toArray, List.map_cons, List.map_nil]); first | done | rfl | (simp only [List.length_drop, List.length_take]; rfl)) ?_; (with_reducible refine (spec_l11Ahead.calls k3 (wrap64 (x121000_3 + x9_3)) (wrap64 (x121001_3 + x10_3)) x9_3 x10_3 true t124 t125 _ A50.out).mono ?_); rintro e w89 ⟨rfl, hb⟩; refine ⟨_, rfl, ?_⟩; have n0_ := zA (zL (by (with_reducible repeat (first | apply zF | apply zE | apply zG)); exact (Kd.R_mono (Kd.R_far (p := ⟨gb120, 1, none⟩) (Kd.R_far (p := ⟨gb120, 0, none⟩) (Kd.R_mono HO_12.out (fun k_ hk => (⟨hk, hk.2⟩ : _ ∧ k_ ≠ gb120))) (fun _ hk => hk.2) (.int .i64 (wrap64 (x121000_3 + x9_3)))) (fun _ hk => hk.2) (.int .i64 (wrap64 (x121001_3 + x10_3)))) (fun _ h_ => h_.1))) hb); have n1_ := zA (zU (g := gb107) (o := .cells #[.int .i64 a0_0, .int .i64 a0_1, .slice A0_2 l0_2.length c0_2] 26 (0, 0)) (bD_ BK107) hb); have n2_ := zA (zU (g := gb115) (o := .cells #[.int .i64 x116000_2, .int .i64 x116001_2] 43 (0, 0)) (bD_ BK115) hb); have n3_ := zA (zU (g := gb120) (o := .cells #[.int .i64 (wrap64 (x121000_3 + x9_3)), .int .i64 (wrap64 (x121001_3 + x10_3))] 43 (0, 0)) (by (with_reducible repeat (first | refine zM ?_ _ | refine zN ?_ | refine zO ?_ _)); refine blk_put (cs := #[.int .i64 (wrap64 (x121000_3 + x9_3)), .int .i64 x121001_3]) ?_ 1 _ rfl; (with_reducible repeat (first | refine zM ?_ _ | refine zN ?_ | refine zO ?_ _)); refine blk_put (cs := #[.int .i64 x121000_3, .int .i64 x121001_3]) ?_ 0 _ rfl; (with_reducible repeat (first | refine zM ?_ _ | refine zN ?_ | refine zO ?_ _)); exact BK120.out) hb); have n4_ := zA (below_step (bB_ HB) hb); clear HO_12; clear BK107; clear BK115; clear BK120; clear HB; have HO_12 := n0_; have BK107 := n1_; have BK115 := n2_; have BK120 := n3_; have HB := n4_; clear n0_ n1_ n2_ n3_ n4_; (try clear hb); (try clear hb2); (try clear hk); (try clear hi); have hcz90_0 : w89.cell? ⟨gb120, 0, none⟩ = some (.int .i64 (wrap64 (x121000_3 + x9_3))) := (blk_cell BK120.out 0).trans rfl; have hcz90_1 : w89.cell? ⟨gb120, 1, none⟩ = some (.int .i64 (wrap64 (x121001_3 + x10_3))) := (blk_cell BK120.out 1).trans rfl; have hfz90_0 := blk_frozen BK120.out 0; have hfz90_1 := blk_frozen BK120.out 1) | ((with_reducible refine gate_callee (f := 52) rfl ?_); refine goesL_ (some 84) rfl rfl Try.func52 (by kernel_rfl) rfl #[.agg #[.int .i64 (wrap64 (x121000_3 + x9_3)), .int .i64 (wrap64 (x121001_3 + x10_3))], .int .i64 x9_3, .int .i64 x10_3, .bool false] rfl (by (try simp only [List.map_toArray, List.map_cons, List.map_nil]); first | done | rfl | (simp only [List.length_drop, List.length_take]; rfl)) ?_; (with_reducible refine (spec_l11Ahead.calls k3 (wrap64 (x121000_3 + x9_3)) (wrap64 (x121001_3 + x10_3)) x9_3 x10_3 false t126 t127 _ A51.out).mono ?_); rintro e w91 ⟨rfl, hb⟩; refine ⟨_, rfl, ?_⟩; have n0_ := zA (zL (bC_ HO_12) hb); have n1_ := zA (zU (g := gb107) (o := .cells #[.int .i64 a0_0, .int .i64 a0_1, .slice A0_2 l0_2.length c0_2] 26 (0, 0)) (bA_ BK107) hb); have n2_ := zA (zU (g := gb115) (o := .cells #[.int .i64 x116000_2, .int .i64 x116001_2] 43 (0, 0)) (bA_ BK115) hb); have n3_ := zA (zU (g := gb120) (o := .cells #[.int .i64 (wrap64 (x121000_3 + x9_3)), .int .i64 (wrap64 (x121001_3 + x10_3))] 43 (0, 0)) (bA_ BK120) hb); have n4_ := zA (below_step (bB_ HB) hb); clear HO_12; clear BK107; clear BK115; clear BK120; clear HB; have HO_12 := n0_; have BK107 := n1_; have BK115 := n2_; have BK120 := n3_; have HB := n4_; clear n0_ n1_ n2_ n3_ n4_; (try clear hb); (try clear hb2); (try clear hk); (try clear hi); have hcz92_0 : w91.cell? ⟨gb107, 0, none⟩ = some (.int .i64 a0_0) := (blk_cell BK107.out 0).trans rfl; have hcz92_1 : w91.cell? ⟨gb107, 1, none⟩ = some (.int .i64 a0_1) := (blk_cell BK107.out 1).trans rfl; have hcz92_2 : w91.cell? ⟨gb107, 2, none⟩ = some (.slice A0_2 l0_2.length c0_2) := (blk_cell BK107.out 2).trans rfl; have hfz92_0 := blk_frozen BK107.out 0; have hfz92_1 := blk_frozen BK107.out 1; have hfz92_2 := blk_frozen BK107.out 2) | ((with_reducible refine gate_callee (f := 51) rfl ?_); refine goesL_ (some 92) rfl rfl Try.func51 (by kernel_rfl) rfl #[.agg #[.int .i64 a0_0, .int .i64 a0_1, .slice A0_2 l0_2.length c0_2], .int .i64 t124, .int .i64 t125, .int .i64 a1] rfl (by (try simp only [List.map_toArray, List.map_cons, List.map_nil]); first | done | rfl | (simp only [List.length_drop, List.length_take]; rfl)) ?_; (with_reducible refine (spec_l11Above.calls a0_0 a0_1 _ _ l0_2 t124 t125 a1 false _ ?side1 ?side2 A52.out).mono ?_); (case side1 => repeat (first | exact (Kd.C_below HR0_2.out HB.out) | (with_reducible refine zI ?_ _) | (with_reducible refine zH ?_ _) | (with_reducible refine zJ ?_))); (case side2 => exact HC0_2.out); rintro e w93 ⟨rfl, hb⟩; refine ⟨_, rfl, ?_⟩; have n0_ := zA (zL (bC_ HO_12) hb); have n1_ := zA (zU (g := gb107) (o := .cells #[.int .i64 a0_0, .int .i64 a0_1, .slice A0_2 l0_2.length c0_2] 26 (0, 0)) (bA_ BK107) hb); have n2_ := zA (zU (g := gb115) (o := .cells #[.int .i64 x116000_2, .int .i64 x116001_2] 43 (0, 0)) (bA_ BK115) hb); have n3_ := zA (zU (g := gb120) (o := .cells #[.int .i64 (wrap64 (x121000_3 + x9_3)), .int .i64 (wrap64 (x121001_3 + x10_3))] 43 (0, 0)) (bA_ BK120) hb); have n4_ := zA (below_step (bB_ HB) hb); clear HO_12; clear BK107; clear BK115; clear BK120; clear HB; have HO_12 := n0_; have BK107 := n1_; have BK115 := n2_; have BK120 := n3_; have HB := n4_; clear n0_ n1_ n2_ n3_ n4_; (try clear hb); (try clear hb2); (try clear hk); (try clear hi); have hcz94_0 : w93.cell? ⟨gb120, 0, none⟩ = some (.int .i64 (wrap64 (x121000_3 + x9_3))) := (blk_cell BK120.out 0).trans rfl; have hcz94_1 : w93.cell? ⟨gb120, 1, none⟩ = some (.int .i64 (wrap64 (x121001_3 + x10_3))) := (blk_cell BK120.out 1).trans rfl; have hfz94_0 := blk_frozen BK120.out 0; have hfz94_1 := blk_frozen BK120.out 1) | ((with_reducible refine gate_builtin (b := .append) (xs := #[.tmp 98, .tmp 100]) rfl ?_); at_builtin; refine Kd.R_append k43 (w0 := w) w.heap.size rfl (.tmp 98) (.tmp 100) 33 43 (.agg #[(.int .i64 0), (.int .i64 0)]) 16 rfl Try.underlying33 info43 rfl (by decide) (by omega) u12 x12_3 (⟨wrap64 (x121000_3 + x9_3), wrap64 (x121001_3 + x10_3)⟩ : S43) [.int .i64 (wrap64 (x121000_3 + x9_3)), .int .i64 (wrap64 (x121001_3 + x10_3))] (fun k_ => k_ ≠ gb115 ∧ k_ ≠ gb120) (fun _ => False) rfl rfl ?aP (fun _ hk => hk.elim) ?aF ?aO ?aB ?aS ?aL ?_; (case aP => exact k43_mkM _ _ _ (⟨wrap64 (x121000_3 + x9_3), wrap64 (x121001_3 + x10_3)⟩ : S43)); (case aB => exact (bB_ HB)); (case aF => exact (fun k_ hk => ⟨Kd.freshB (g := gb115) (o := .cells #[.int .i64 x116000_2, .int .i64 x116001_2] 43 (0, 0)) (bA_ BK115) k_ hk, Kd.freshB (g := gb120) (o := .cells #[.int .i64 (wrap64 (x121000_3 + x9_3)), .int .i64 (wrap64 (x121001_3 + x10_3))] 43 (0, 0)) (bA_ BK120) k_ hk⟩)); (case aO => exact (bC_ HO_12)); (case aS => exact (zT (bB_ HB))); (case aL => have := LMc83.out; omega); intro v134 w95 ho hb hg hat; rw [← Ny133.out] at ho; have n0_ := zA (blk_grown (g := gb107) (o := .cells #[.int .i64 a0_0, .int .i64 a0_1, .slice A0_2 l0_2.length c0_2] 26 (0, 0)) (bA_ BK107) hg (Kd.R_ne HO_12.out BK107.out (by decide))); have n1_ := zA (blk_grown (g := gb115) (o := .cells #[.int .i64 x116000_2, .int .i64 x116001_2] 43 (0, 0)) (bA_ BK115) hg (Kd.R_away HO_12.out (fun _ hk => hk.1))); have n2_ := zA (blk_grown (g := gb120) (o := .cells #[.int .i64 (wrap64 (x121000_3 + x9_3)), .int .i64 (wrap64 (x121001_3 + x10_3))] 43 (0, 0)) (bA_ BK120) hg (Kd.R_away HO_12.out (fun _ hk => hk.2))); have n3_ := zA (hb); have n4_ := zA (ho); clear BK107; clear BK115; clear BK120; clear HB; clear HO_12; have BK107 := n0_; have BK115 := n1_; have BK120 := n2_; have HB := n3_; have HO135 := n4_; clear n0_ n1_ n2_ n3_ n4_; clear ho hb hg hat))
              go_roundg k3
              case measure => have := HJ4.out; have := HK2.out; have := HK3.out; omega
              case rel => exact ⟨(wrap64 (-x10_3)), (x9_3), (y133), (wrap64 (x121000_3 + x9_3)), (wrap64 (x121001_3 + x10_3)), (by first | rfl | (simp; done) | (simp [*]; done)), (by first | rfl | (simp; done) | (simp [*]; done)), H', ⟨by have := HJ4.out; have := HK2.out; have := HK3.out; omega⟩, ⟨bC_ HO135⟩, ⟨bA_ BK107⟩, ⟨bA_ BK115⟩, ⟨bA_ BK120⟩, ⟨bB_ HB⟩⟩
             ·rw [if_neg c83] at H
              exact absurd H (by simp)
 ·replace c4 := Bool.eq_false_iff.mpr c4
  subst c4
  have H1 : (some ((([] : List (S43))), 1)) = some (r1, r2) := by rw [if_neg (show ¬ (false = true) by decide)] at H; exact H
  clear H
  have H := H1
  clear H1
  obtain ⟨y109, hy109⟩ : ∃ y_ : List (S43), y_ = (([] : List (S43))) := ⟨_, rfl⟩
  replace H : (some (y109, 1)) = some (r1, r2) := by first | (rw [hy109]; with_reducible exact H) | (have H2_ := (Option.bind_some _ _).symm.trans H; rw [hy109]; with_reducible exact H2_) | (have H2_ := (Option.bind_some _ _).symm.trans H; with_reducible exact H2_) | with_reducible exact H | (rw [hy109]; exact H) | exact H
  have Ny109 := zA hy109
  clear hy109
  simp only [Option.some.injEq, Prod.mk.injEq] at H
  obtain ⟨rfl, rfl⟩ := H
  go_enter Try.func16, Try.ntmps16
  go_wp2_with (first | ((with_reducible refine gate_dst (N := 2) rfl ?_); refine box_event ?hg (N := 2) ?hd (cs := #[.int .i64 a0_0, .int .i64 a0_1, .slice A0_2 l0_2.length c0_2]) (t := 26) ?hr ?_; (case hd => rfl); (case hg => rfl); (case hr => first | (go_simp; done) | (go_simp; rfl)); intro gb107 hg w96 hbox hb; have n0_ := zA (below_step (bB_ HB) hb); have n1_ := zA (hbox); have n2_ := zA ((by rw [hg]; exact (zT (bB_ HB)) : w.heap.size ≤ gb107)); have n3_ := zA ((by rw [hg]; exact (zT (bB_ HB)) : w.heap.size ≤ gb107)); clear HB; have HB := n0_; have BK107 := n1_; have GW107 := n2_; have GE107 := n3_; clear n0_ n1_ n2_ n3_; clear hb hbox hg; have hcz97_0 : w96.cell? ⟨gb107, 0, none⟩ = some (.int .i64 a0_0) := (blk_cell BK107.out 0).trans rfl; have hcz97_1 : w96.cell? ⟨gb107, 1, none⟩ = some (.int .i64 a0_1) := (blk_cell BK107.out 1).trans rfl; have hcz97_2 : w96.cell? ⟨gb107, 2, none⟩ = some (.slice A0_2 l0_2.length c0_2) := (blk_cell BK107.out 2).trans rfl; have hfz97_0 := blk_frozen BK107.out 0; have hfz97_1 := blk_frozen BK107.out 1; have hfz97_2 := blk_frozen BK107.out 2) | ((with_reducible refine gate_callee (f := 39) rfl ?_); refine goesL_ (some 20) rfl rfl Try.func39 (by kernel_rfl) rfl #[.agg #[.int .i64 a0_0, .int .i64 a0_1, .slice A0_2 l0_2.length c0_2]] rfl (by (try simp only [List.map_toArray, List.map_cons, List.map_nil]); first | done | rfl | (simp only [List.length_drop, List.length_take]; rfl)) ?_; (with_reducible refine (spec_FieldOK.calls k a0_0 a0_1 _ _ l0_2 false _ ?side1 ?side2 A3.out).mono ?_); (case side1 => repeat (first | exact (Kd.C_below HR0_2.out HB.out) | (with_reducible refine zI ?_ _) | (with_reducible refine zH ?_ _) | (with_reducible refine zJ ?_))); (case side2 => exact HC0_2.out); rintro e w98 ⟨rfl, hb⟩; refine ⟨_, rfl, ?_⟩; have n0_ := zA (zU (g := gb107) (o := .cells #[.int .i64 a0_0, .int .i64 a0_1, .slice A0_2 l0_2.length c0_2] 26 (0, 0)) (bA_ BK107) hb); have n1_ := zA (below_step (bB_ HB) hb); clear BK107; clear HB; have BK107 := n0_; have HB := n1_; clear n0_ n1_; (try clear hb); (try clear hb2); (try clear hk); (try clear hi)) | ((with_reducible refine gate_dst (N := 22) rfl ?_); refine Kd.R_lit k43 _ 43 ?hg (N := 22) ?hd (xs := ([] : List (S43))) (inner := []) (ok := fun _ => True) (okp := fun _ => True) ?hr ?hp (fun _ hk => hk) trivial (Below.refl _ _) (Nat.le_refl _) (by simp) ?_; (case hd => rfl); (case hg => rfl); (case hr => first | (go_simp; done) | (go_simp; rfl)); (case hp => exact (Reps.none _ _)); intro v110 w99 ho100 hb hg_ hnew_; clear hg_ hnew_; (first | rw [← Ny109.out] at ho100 | (simp only [Int.reduceToNat] at ho100; rw [← Ny109.out] at ho100)); have n0_ := zA (Kd.R_lower ho100 (zT (bB_ HB))); have n1_ := zA (zU (g := gb107) (o := .cells #[.int .i64 a0_0, .int .i64 a0_1, .slice A0_2 l0_2.length c0_2] 26 (0, 0)) (bA_ BK107) hb); have n2_ := zA (below_step (bB_ HB) hb); clear BK107; clear HB; have HO111 := n0_; have BK107 := n1_; have HB := n2_; clear n0_ n1_ n2_; clear hb ho100))
  go_ret2
  exact ⟨_, by first | rfl | (simp [errW_none, errW_some] <;> rfl) | (simp [*, errW_none, errW_some] <;> rfl), bC_ HO111, bB_ HB⟩

end Go.Proofs.Ytgmbbcnfcddamaa.PFnContour
