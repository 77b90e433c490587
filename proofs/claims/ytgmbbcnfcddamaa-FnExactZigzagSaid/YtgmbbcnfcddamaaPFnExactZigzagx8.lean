/- Written for this claim by a program of this session: the functions that the law reaches, each with its contract. -/
import Derived.Test.YtgmbbcnfcddamaaPFnExactZigzagx0
import Derived.Test.YtgmbbcnfcddamaaPFnExactZigzagx6
import Derived.Test.YtgmbbcnfcddamaaPFnExactZigzagx7
namespace Go.Proofs.Ytgmbbcnfcddamaa.PFnExactZigzag
open Go.RowKit Go.Proofs.YtgmbbcnfcddamaaW.PrintWords Go.Proofs.YtgmbbcnfcddamaaW.PrintLast Go.Proofs.YtgmbbcnfcddamaaW.PrintMore
open Go.Proofs.YtgmbbcnfcddamaaW.PrintWords.Aside0 renaming mk → zA
open Go.Proofs.YtgmbbcnfcddamaaW.PrintWords.Kd renaming R_drewN → zE, R_alloc → zF, R_drew → zG, C_drewN → zH, C_alloc → zI, C_drew → zJ, R_reads' → zK, R_below → zL
open Go.Proofs.YtgmbbcnfcddamaaW.PrintWords renaming blk_drewN → zM, blk_drew → zN, blk_alloc → zO, below_size → zT, blk_below → zU
attribute [local go_sem] i64_w max2_int min2_int max_two min_two max_three min_three max_four min_four
set_option linter.unusedVariables false
set_option linter.unusedSimpArgs false

mutual
def impl_millOK.j0 : Nat → Bool → Int → Int → List Int → Int → Int → List Int → Option (Bool)
 | 0, _, _, _, _, _, _, _ => none
 | k + 1, x35, x243000, x243001, x243002, x244000, x244001, x244002 => if x35 = true then (some false) else (impl_millOK.l0 k x244002 (x244002.length : Int) 0 x243000 x243001 x243002)
def impl_millOK.l0 : Nat → List Int → Int → Int → Int → Int → List Int → Option (Bool)
 | 0, _, _, _, _, _, _ => none
 | k + 1, x37, x38, x39, x243000, x243001, x243002 => if x39 < x38 then (if 0 ≤ x39 then (if x39 < (x37.length : Int) then (if x39 < (x243002.length : Int) then (if (rd x37 x39) > (rd x243002 x39) then (some false) else (impl_millOK.l0 k x37 x38 (wrap64 (x39 + 1)) x243000 x243001 x243002)) else (none)) else (none)) else (none)) else (some true)
end
def impl_millOK.f (k : Nat) (a0_0 : Int) (a0_1 : Int) (l0_2 : List Int) (a1_0 : Int) (a1_1 : Int) (l1_2 : List Int) (a2 : Int) : Option (Bool) := (impl_FieldOK.f k a0_0 a0_1 l0_2).bind fun t244 => (if t244 = true then ((impl_FieldOK.f k a1_0 a1_1 l1_2).bind fun t245 => (if t245 = true then (if a0_0 = a1_0 then (if a0_1 = a1_1 then ((impl_toolOK.f a2).bind fun t246 => (impl_millOK.j0 k (!t246) a0_0 a0_1 l0_2 a1_0 a1_1 l1_2)) else (impl_millOK.j0 k true a0_0 a0_1 l0_2 a1_0 a1_1 l1_2)) else (impl_millOK.j0 k true a0_0 a0_1 l0_2 a1_0 a1_1 l1_2)) else (impl_millOK.j0 k true a0_0 a0_1 l0_2 a1_0 a1_1 l1_2))) else (impl_millOK.j0 k true a0_0 a0_1 l0_2 a1_0 a1_1 l1_2))
theorem impl_millOK.mono_l : ∀ k, (∀ y0 y1 y2 y3 y4 y5 y6, LeO (impl_millOK.j0 k y0 y1 y2 y3 y4 y5 y6) (impl_millOK.j0 (k + 1) y0 y1 y2 y3 y4 y5 y6)) ∧ (∀ y0 y1 y2 y3 y4 y5, LeO (impl_millOK.l0 k y0 y1 y2 y3 y4 y5) (impl_millOK.l0 (k + 1) y0 y1 y2 y3 y4 y5))
 | 0 => ⟨fun _ _ _ _ _ _ _ r h => by simp [impl_millOK.j0] at h, fun _ _ _ _ _ _ r h => by simp [impl_millOK.l0] at h⟩
 | k + 1 => by
  obtain ⟨ih0, ih1⟩ := impl_millOK.mono_l k
  refine ⟨?_, ?_⟩
  ·intro y0 y1 y2 y3 y4 y5 y6
   unfold impl_millOK.j0
   repeat' first
   | (with_reducible exact ih0 _ _ _ _ _ _ _)
   | (with_reducible exact ih1 _ _ _ _ _ _)
   | (with_reducible exact impl_FieldOK.mono _ _ _ _)
   | (with_reducible exact LeO.refl _)
   | (with_reducible exact LeO.none _)
   | (with_reducible refine LeO.ite ?_ ?_)
   | (with_reducible refine LeO.bind ?_ (fun _ => ?_))
   | exact ih0 _ _ _ _ _ _ _
   | exact ih1 _ _ _ _ _ _
   | exact impl_FieldOK.mono _ _ _ _
   | exact LeO.none _
   | refine LeO.ite ?_ ?_
   | refine LeO.bind ?_ (fun _ => ?_)
  ·intro y0 y1 y2 y3 y4 y5
   unfold impl_millOK.l0
   repeat' first
   | (with_reducible exact ih0 _ _ _ _ _ _ _)
   | (with_reducible exact ih1 _ _ _ _ _ _)
   | (with_reducible exact impl_FieldOK.mono _ _ _ _)
   | (with_reducible exact LeO.refl _)
   | (with_reducible exact LeO.none _)
   | (with_reducible refine LeO.ite ?_ ?_)
   | (with_reducible refine LeO.bind ?_ (fun _ => ?_))
   | exact ih0 _ _ _ _ _ _ _
   | exact ih1 _ _ _ _ _ _
   | exact impl_FieldOK.mono _ _ _ _
   | exact LeO.none _
   | refine LeO.ite ?_ ?_
   | refine LeO.bind ?_ (fun _ => ?_)
theorem impl_millOK.mono : ∀ a0 a1 a2 a3 a4 a5 a6 k, LeO (impl_millOK.f k a0 a1 a2 a3 a4 a5 a6) (impl_millOK.f (k + 1) a0 a1 a2 a3 a4 a5 a6) := by
 intro a0 a1 a2 a3 a4 a5 a6 k
 obtain ⟨ih0, ih1⟩ := impl_millOK.mono_l k
 unfold impl_millOK.f
 repeat' first
   | (with_reducible exact ih0 _ _ _ _ _ _ _)
   | (with_reducible exact ih1 _ _ _ _ _ _)
   | (with_reducible exact impl_FieldOK.mono _ _ _ _)
   | (with_reducible exact LeO.refl _)
   | (with_reducible exact LeO.none _)
   | (with_reducible refine LeO.ite ?_ ?_)
   | (with_reducible refine LeO.bind ?_ (fun _ => ?_))
   | exact ih0 _ _ _ _ _ _ _
   | exact ih1 _ _ _ _ _ _
   | exact impl_FieldOK.mono _ _ _ _
   | exact LeO.none _
   | refine LeO.ite ?_ ?_
   | refine LeO.bind ?_ (fun _ => ?_)
set_option maxHeartbeats 8000000 in
set_option maxRecDepth 100000 in
theorem impl_millOK.calls (k : Nat) (a0_0 : Int) (a0_1 : Int) (A0_2 : Option Addr) (c0_2 : Nat) (l0_2 : List Int) (a1_0 : Int) (a1_1 : Int) (A1_2 : Option Addr) (c1_2 : Nat) (l1_2 : List Int) (a2 : Int) (r : Bool) (w : World) (hr0_2 : Kd.C (Kd.int .i64) w A0_2 l0_2.length l0_2) (hc0_2 : l0_2.length ≤ c0_2) (hr1_2 : Kd.C (Kd.int .i64) w A1_2 l1_2.length l1_2) (hc1_2 : l1_2.length ≤ c1_2) (h : impl_millOK.f k a0_0 a0_1 l0_2 a1_0 a1_1 l1_2 a2 = some r) :
  Calls Try.prog 60 #[.agg #[.int .i64 a0_0, .int .i64 a0_1, .slice A0_2 l0_2.length c0_2], .agg #[.int .i64 a1_0, .int .i64 a1_1, .slice A1_2 l1_2.length c1_2], .int .i64 a2] w fun e w' => e = .returned (.bool r) ∧ Below w.heap.size w w' := by
 have hu26 := Try.underlying26
 have HR0_2 := zA hr0_2
 have HC0_2 := zA hc0_2
 clear hr0_2 hc0_2
 have HR1_2 := zA hr1_2
 have HC1_2 := zA hc1_2
 clear hr1_2 hc1_2
 have HB := zA (Below.refl w.heap.size w)
 have H : ((impl_FieldOK.f k a0_0 a0_1 l0_2).bind fun t244 => (if t244 = true then ((impl_FieldOK.f k a1_0 a1_1 l1_2).bind fun t245 => (if t245 = true then (if a0_0 = a1_0 then (if a0_1 = a1_1 then ((impl_toolOK.f a2).bind fun t246 => (impl_millOK.j0 k (!t246) a0_0 a0_1 l0_2 a1_0 a1_1 l1_2)) else (impl_millOK.j0 k true a0_0 a0_1 l0_2 a1_0 a1_1 l1_2)) else (impl_millOK.j0 k true a0_0 a0_1 l0_2 a1_0 a1_1 l1_2)) else (impl_millOK.j0 k true a0_0 a0_1 l0_2 a1_0 a1_1 l1_2))) else (impl_millOK.j0 k true a0_0 a0_1 l0_2 a1_0 a1_1 l1_2))) = some r := h
 clear h
 have HC4 := zA H
 clear H
 go_enter Try.func60, Try.ntmps60
 go_upto_region 1 with (first | ((with_reducible refine gate_dst (N := 3) rfl ?_); refine box_event ?hg (N := 3) ?hd (cs := #[.int .i64 a0_0, .int .i64 a0_1, .slice A0_2 l0_2.length c0_2]) (t := 26) ?hr ?_; (case hd => rfl); (case hg => rfl); (case hr => first | (go_simp; done) | (go_simp; rfl)); intro gb242 hg w5 hbox hb; have n0_ := zA (below_step (bB_ HB) hb); have n1_ := zA (hbox); have n2_ := zA ((by rw [hg]; exact (zT (bB_ HB)) : w.heap.size ≤ gb242)); have n3_ := zA ((by rw [hg]; exact (zT (bB_ HB)) : w.heap.size ≤ gb242)); clear HB; have HB := n0_; have BK242 := n1_; have GW242 := n2_; have GE242 := n3_; clear n0_ n1_ n2_ n3_; clear hb hbox hg) | ((with_reducible refine gate_dst (N := 4) rfl ?_); refine box_event ?hg (N := 4) ?hd (cs := #[.int .i64 a1_0, .int .i64 a1_1, .slice A1_2 l1_2.length c1_2]) (t := 26) ?hr ?_; (case hd => rfl); (case hg => rfl); (case hr => first | (go_simp; done) | (go_simp; rfl)); intro gb243 hg w6 hbox hb; have n0_ := zA (zU (g := gb242) (o := .cells #[.int .i64 a0_0, .int .i64 a0_1, .slice A0_2 l0_2.length c0_2] 26 (0, 0)) (bA_ BK242) hb); have n1_ := zA (below_step (bB_ HB) hb); have n2_ := zA (hbox); have n3_ := zA ((by rw [hg]; exact (zT (bB_ HB)) : w.heap.size ≤ gb243)); have n4_ := zA ((by rw [hg]; exact (zT (bB_ HB)) : w.heap.size ≤ gb243)); have n5_ := zA ((by rw [hg]; exact Nat.ne_of_lt (blk_lt (g := gb242) (o := .cells #[.int .i64 a0_0, .int .i64 a0_1, .slice A0_2 l0_2.length c0_2] 26 (0, 0)) (bA_ BK242)) : gb242 ≠ gb243)); have n6_ := zA ((by rw [hg]; exact Nat.ne_of_gt (blk_lt (g := gb242) (o := .cells #[.int .i64 a0_0, .int .i64 a0_1, .slice A0_2 l0_2.length c0_2] 26 (0, 0)) (bA_ BK242)) : gb243 ≠ gb242)); clear BK242; clear HB; have BK242 := n0_; have HB := n1_; have BK243 := n2_; have GW243 := n3_; have GE243 := n4_; have NB242_243 := n5_; have NB243_242 := n6_; clear n0_ n1_ n2_ n3_ n4_ n5_ n6_; clear hb hbox hg))
 (try simp only [Act.put, List.setIfInBounds_toArray, List.set_cons_zero, List.set_cons_succ])
 go_cut [35] (fun v35 wc => ∃ (kq : Nat) (x35_3 : Bool), v35 = .bool x35_3 ∧ Aside0 (impl_millOK.j0 kq x35_3 a0_0 a0_1 l0_2 a1_0 a1_1 l1_2 = some r) ∧ Aside0 (kq ≤ k) ∧ Aside0 (wc.heap[gb242]? = some (.cells #[.int .i64 a0_0, .int .i64 a0_1, (.slice A0_2 l0_2.length c0_2)] 26 (0, 0))) ∧ Aside0 (wc.heap[gb243]? = some (.cells #[.int .i64 a1_0, .int .i64 a1_1, (.slice A1_2 l1_2.length c1_2)] 26 (0, 0))) ∧ Aside0 (Below w.heap.size w wc))
 case first =>
  have H := HC4.out
  clear HC4
  replace H := Option.bind_eq_some_iff.mp H
  obtain ⟨t244, A70, H⟩ := H
  replace H : (if t244 = true then ((impl_FieldOK.f k a1_0 a1_1 l1_2).bind fun t245 => (if t245 = true then (if a0_0 = a1_0 then (if a0_1 = a1_1 then ((impl_toolOK.f a2).bind fun t246 => (impl_millOK.j0 k (!t246) a0_0 a0_1 l0_2 a1_0 a1_1 l1_2)) else (impl_millOK.j0 k true a0_0 a0_1 l0_2 a1_0 a1_1 l1_2)) else (impl_millOK.j0 k true a0_0 a0_1 l0_2 a1_0 a1_1 l1_2)) else (impl_millOK.j0 k true a0_0 a0_1 l0_2 a1_0 a1_1 l1_2))) else (impl_millOK.j0 k true a0_0 a0_1 l0_2 a1_0 a1_1 l1_2)) = some r := H
  have A7 := zA A70
  clear A70
  by_cases c8 : t244 = true
  ·subst c8
   have H1 : ((impl_FieldOK.f k a1_0 a1_1 l1_2).bind fun t245 => (if t245 = true then (if a0_0 = a1_0 then (if a0_1 = a1_1 then ((impl_toolOK.f a2).bind fun t246 => (impl_millOK.j0 k (!t246) a0_0 a0_1 l0_2 a1_0 a1_1 l1_2)) else (impl_millOK.j0 k true a0_0 a0_1 l0_2 a1_0 a1_1 l1_2)) else (impl_millOK.j0 k true a0_0 a0_1 l0_2 a1_0 a1_1 l1_2)) else (impl_millOK.j0 k true a0_0 a0_1 l0_2 a1_0 a1_1 l1_2))) = some r := by rw [if_pos rfl] at H; exact H
   clear H
   have H := H1
   clear H1
   replace H := Option.bind_eq_some_iff.mp H
   obtain ⟨t245, A90, H⟩ := H
   replace H : (if t245 = true then (if a0_0 = a1_0 then (if a0_1 = a1_1 then ((impl_toolOK.f a2).bind fun t246 => (impl_millOK.j0 k (!t246) a0_0 a0_1 l0_2 a1_0 a1_1 l1_2)) else (impl_millOK.j0 k true a0_0 a0_1 l0_2 a1_0 a1_1 l1_2)) else (impl_millOK.j0 k true a0_0 a0_1 l0_2 a1_0 a1_1 l1_2)) else (impl_millOK.j0 k true a0_0 a0_1 l0_2 a1_0 a1_1 l1_2)) = some r := H
   have A9 := zA A90
   clear A90
   by_cases c10 : t245 = true
   ·subst c10
    have H1 : (if a0_0 = a1_0 then (if a0_1 = a1_1 then ((impl_toolOK.f a2).bind fun t246 => (impl_millOK.j0 k (!t246) a0_0 a0_1 l0_2 a1_0 a1_1 l1_2)) else (impl_millOK.j0 k true a0_0 a0_1 l0_2 a1_0 a1_1 l1_2)) else (impl_millOK.j0 k true a0_0 a0_1 l0_2 a1_0 a1_1 l1_2)) = some r := by rw [if_pos rfl] at H; exact H
    clear H
    have H := H1
    clear H1
    by_cases c11 : a0_0 = a1_0
    ·rw [if_pos c11] at H
     have c11b0 : (a0_0 == a1_0) = true := beq_iff_eq.mpr c11
     have c11b1 : (a0_0 != a1_0) = false := bne_eq_false_iff_eq.mpr c11
     clear c11
     (first | rw [c11b0] | (simp only [i64_w, i32_w]; rw [c11b0]) | skip)
     by_cases c12 : a0_1 = a1_1
     ·rw [if_pos c12] at H
      have c12b0 : (a0_1 == a1_1) = true := beq_iff_eq.mpr c12
      have c12b1 : (a0_1 != a1_1) = false := bne_eq_false_iff_eq.mpr c12
      clear c12
      replace H := Option.bind_eq_some_iff.mp H
      obtain ⟨t246, A130, H⟩ := H
      replace H : (impl_millOK.j0 k (!t246) a0_0 a0_1 l0_2 a1_0 a1_1 l1_2) = some r := H
      have A13 := zA A130
      clear A130
      have H' := zA H
      clear H
      have hnb14 := NB242_243.out
      have hnc14 := NB243_242.out
      have hcz15_0 : w6.cell? ⟨gb242, 0, none⟩ = some (.int .i64 a0_0) := (blk_cell BK242.out 0).trans rfl
      have hcz15_1 : w6.cell? ⟨gb242, 1, none⟩ = some (.int .i64 a0_1) := (blk_cell BK242.out 1).trans rfl
      have hcz15_2 : w6.cell? ⟨gb242, 2, none⟩ = some (.slice A0_2 l0_2.length c0_2) := (blk_cell BK242.out 2).trans rfl
      have hfz15_0 := blk_frozen BK242.out 0
      have hfz15_1 := blk_frozen BK242.out 1
      have hfz15_2 := blk_frozen BK242.out 2
      go_wp2_with (first | ((with_reducible refine gate_callee (f := 44) rfl ?_); refine goesL_ (some 10) rfl rfl Try.func44 (by kernel_rfl) rfl #[.agg #[.int .i64 a0_0, .int .i64 a0_1, .slice A0_2 l0_2.length c0_2]] rfl (by (try simp only [List.map_toArray, List.map_cons, List.map_nil]); first | done | rfl | (simp only [List.length_drop, List.length_take]; rfl)) ?_; (with_reducible refine (impl_FieldOK.calls k a0_0 a0_1 _ _ l0_2 true _ ?side1 ?side2 A7.out).mono ?_); (case side1 => repeat (first | exact (Kd.C_below HR0_2.out HB.out) | (with_reducible refine zI ?_ _) | (with_reducible refine zH ?_ _) | (with_reducible refine zJ ?_))); (case side2 => exact HC0_2.out); rintro e w16 ⟨rfl, hb⟩; refine ⟨_, rfl, ?_⟩; have n0_ := zA (zU (g := gb242) (o := .cells #[.int .i64 a0_0, .int .i64 a0_1, .slice A0_2 l0_2.length c0_2] 26 (0, 0)) (bA_ BK242) hb); have n1_ := zA (zU (g := gb243) (o := .cells #[.int .i64 a1_0, .int .i64 a1_1, .slice A1_2 l1_2.length c1_2] 26 (0, 0)) (bA_ BK243) hb); have n2_ := zA (below_step (bB_ HB) hb); clear BK242; clear BK243; clear HB; have BK242 := n0_; have BK243 := n1_; have HB := n2_; clear n0_ n1_ n2_; (try clear hb); (try clear hb2); (try clear hk); (try clear hi); have hcz17_0 : w16.cell? ⟨gb243, 0, none⟩ = some (.int .i64 a1_0) := (blk_cell BK243.out 0).trans rfl; have hcz17_1 : w16.cell? ⟨gb243, 1, none⟩ = some (.int .i64 a1_1) := (blk_cell BK243.out 1).trans rfl; have hcz17_2 : w16.cell? ⟨gb243, 2, none⟩ = some (.slice A1_2 l1_2.length c1_2) := (blk_cell BK243.out 2).trans rfl; have hfz17_0 := blk_frozen BK243.out 0; have hfz17_1 := blk_frozen BK243.out 1; have hfz17_2 := blk_frozen BK243.out 2) | (go_at_call 44; (with_reducible refine (impl_FieldOK.calls k a1_0 a1_1 _ _ l1_2 true _ ?side1 ?side2 A9.out).mono ?_); (case side1 => repeat (first | exact (Kd.C_below HR1_2.out HB.out) | (with_reducible refine zI ?_ _) | (with_reducible refine zH ?_ _) | (with_reducible refine zJ ?_))); (case side2 => exact HC1_2.out); rintro e w18 ⟨rfl, hb⟩; have n0_ := zA (zU (g := gb242) (o := .cells #[.int .i64 a0_0, .int .i64 a0_1, .slice A0_2 l0_2.length c0_2] 26 (0, 0)) (bA_ BK242) hb); have n1_ := zA (zU (g := gb243) (o := .cells #[.int .i64 a1_0, .int .i64 a1_1, .slice A1_2 l1_2.length c1_2] 26 (0, 0)) (bA_ BK243) hb); have n2_ := zA (below_step (bB_ HB) hb); clear BK242; clear BK243; clear HB; have BK242 := n0_; have BK243 := n1_; have HB := n2_; clear n0_ n1_ n2_; (try clear hb); (try clear hb2); (try clear hk); (try clear hi); have hcz19_0 : w18.cell? ⟨gb242, 0, none⟩ = some (.int .i64 a0_0) := (blk_cell BK242.out 0).trans rfl; have hcz19_1 : w18.cell? ⟨gb242, 1, none⟩ = some (.int .i64 a0_1) := (blk_cell BK242.out 1).trans rfl; have hcz19_2 : w18.cell? ⟨gb242, 2, none⟩ = some (.slice A0_2 l0_2.length c0_2) := (blk_cell BK242.out 2).trans rfl; have hfz19_0 := blk_frozen BK242.out 0; have hfz19_1 := blk_frozen BK242.out 1; have hfz19_2 := blk_frozen BK242.out 2; have hcz20_0 : w18.cell? ⟨gb243, 0, none⟩ = some (.int .i64 a1_0) := (blk_cell BK243.out 0).trans rfl; have hcz20_1 : w18.cell? ⟨gb243, 1, none⟩ = some (.int .i64 a1_1) := (blk_cell BK243.out 1).trans rfl; have hcz20_2 : w18.cell? ⟨gb243, 2, none⟩ = some (.slice A1_2 l1_2.length c1_2) := (blk_cell BK243.out 2).trans rfl; have hfz20_0 := blk_frozen BK243.out 0; have hfz20_1 := blk_frozen BK243.out 1; have hfz20_2 := blk_frozen BK243.out 2) | (go_at_call 45; (with_reducible refine (impl_toolOK.calls a2 t246 _ A13.out).mono ?_); rintro e w' ⟨rfl, ⟨nd, rfl⟩⟩))
      go_meet
      case rel => exact ⟨_, (!t246), (by first | rfl | (simp; done) | (simp [*]; done)), H', ⟨by first | omega | exact Nat.le_refl _⟩, ⟨bA_ BK242⟩, ⟨bA_ BK243⟩, ⟨bB_ HB⟩⟩
     ·rw [if_neg c12] at H
      have c12b0 : (a0_1 == a1_1) = false := beq_eq_false_iff_ne.mpr c12
      have c12b1 : (a0_1 != a1_1) = true := bne_iff_ne.mpr c12
      have H' := zA H
      clear H
      have hnb21 := NB242_243.out
      have hnc21 := NB243_242.out
      have hcz22_0 : w6.cell? ⟨gb242, 0, none⟩ = some (.int .i64 a0_0) := (blk_cell BK242.out 0).trans rfl
      have hcz22_1 : w6.cell? ⟨gb242, 1, none⟩ = some (.int .i64 a0_1) := (blk_cell BK242.out 1).trans rfl
      have hcz22_2 : w6.cell? ⟨gb242, 2, none⟩ = some (.slice A0_2 l0_2.length c0_2) := (blk_cell BK242.out 2).trans rfl
      have hfz22_0 := blk_frozen BK242.out 0
      have hfz22_1 := blk_frozen BK242.out 1
      have hfz22_2 := blk_frozen BK242.out 2
      go_wp2_with (first | ((with_reducible refine gate_callee (f := 44) rfl ?_); refine goesL_ (some 10) rfl rfl Try.func44 (by kernel_rfl) rfl #[.agg #[.int .i64 a0_0, .int .i64 a0_1, .slice A0_2 l0_2.length c0_2]] rfl (by (try simp only [List.map_toArray, List.map_cons, List.map_nil]); first | done | rfl | (simp only [List.length_drop, List.length_take]; rfl)) ?_; (with_reducible refine (impl_FieldOK.calls k a0_0 a0_1 _ _ l0_2 true _ ?side1 ?side2 A7.out).mono ?_); (case side1 => repeat (first | exact (Kd.C_below HR0_2.out HB.out) | (with_reducible refine zI ?_ _) | (with_reducible refine zH ?_ _) | (with_reducible refine zJ ?_))); (case side2 => exact HC0_2.out); rintro e w23 ⟨rfl, hb⟩; refine ⟨_, rfl, ?_⟩; have n0_ := zA (zU (g := gb242) (o := .cells #[.int .i64 a0_0, .int .i64 a0_1, .slice A0_2 l0_2.length c0_2] 26 (0, 0)) (bA_ BK242) hb); have n1_ := zA (zU (g := gb243) (o := .cells #[.int .i64 a1_0, .int .i64 a1_1, .slice A1_2 l1_2.length c1_2] 26 (0, 0)) (bA_ BK243) hb); have n2_ := zA (below_step (bB_ HB) hb); clear BK242; clear BK243; clear HB; have BK242 := n0_; have BK243 := n1_; have HB := n2_; clear n0_ n1_ n2_; (try clear hb); (try clear hb2); (try clear hk); (try clear hi); have hcz24_0 : w23.cell? ⟨gb243, 0, none⟩ = some (.int .i64 a1_0) := (blk_cell BK243.out 0).trans rfl; have hcz24_1 : w23.cell? ⟨gb243, 1, none⟩ = some (.int .i64 a1_1) := (blk_cell BK243.out 1).trans rfl; have hcz24_2 : w23.cell? ⟨gb243, 2, none⟩ = some (.slice A1_2 l1_2.length c1_2) := (blk_cell BK243.out 2).trans rfl; have hfz24_0 := blk_frozen BK243.out 0; have hfz24_1 := blk_frozen BK243.out 1; have hfz24_2 := blk_frozen BK243.out 2) | (go_at_call 44; (with_reducible refine (impl_FieldOK.calls k a1_0 a1_1 _ _ l1_2 true _ ?side1 ?side2 A9.out).mono ?_); (case side1 => repeat (first | exact (Kd.C_below HR1_2.out HB.out) | (with_reducible refine zI ?_ _) | (with_reducible refine zH ?_ _) | (with_reducible refine zJ ?_))); (case side2 => exact HC1_2.out); rintro e w25 ⟨rfl, hb⟩; have n0_ := zA (zU (g := gb242) (o := .cells #[.int .i64 a0_0, .int .i64 a0_1, .slice A0_2 l0_2.length c0_2] 26 (0, 0)) (bA_ BK242) hb); have n1_ := zA (zU (g := gb243) (o := .cells #[.int .i64 a1_0, .int .i64 a1_1, .slice A1_2 l1_2.length c1_2] 26 (0, 0)) (bA_ BK243) hb); have n2_ := zA (below_step (bB_ HB) hb); clear BK242; clear BK243; clear HB; have BK242 := n0_; have BK243 := n1_; have HB := n2_; clear n0_ n1_ n2_; (try clear hb); (try clear hb2); (try clear hk); (try clear hi); have hcz26_0 : w25.cell? ⟨gb242, 0, none⟩ = some (.int .i64 a0_0) := (blk_cell BK242.out 0).trans rfl; have hcz26_1 : w25.cell? ⟨gb242, 1, none⟩ = some (.int .i64 a0_1) := (blk_cell BK242.out 1).trans rfl; have hcz26_2 : w25.cell? ⟨gb242, 2, none⟩ = some (.slice A0_2 l0_2.length c0_2) := (blk_cell BK242.out 2).trans rfl; have hfz26_0 := blk_frozen BK242.out 0; have hfz26_1 := blk_frozen BK242.out 1; have hfz26_2 := blk_frozen BK242.out 2; have hcz27_0 : w25.cell? ⟨gb243, 0, none⟩ = some (.int .i64 a1_0) := (blk_cell BK243.out 0).trans rfl; have hcz27_1 : w25.cell? ⟨gb243, 1, none⟩ = some (.int .i64 a1_1) := (blk_cell BK243.out 1).trans rfl; have hcz27_2 : w25.cell? ⟨gb243, 2, none⟩ = some (.slice A1_2 l1_2.length c1_2) := (blk_cell BK243.out 2).trans rfl; have hfz27_0 := blk_frozen BK243.out 0; have hfz27_1 := blk_frozen BK243.out 1; have hfz27_2 := blk_frozen BK243.out 2))
      go_meet
      case rel => exact ⟨_, (true), (by first | rfl | (simp; done) | (simp [*]; done)), H', ⟨by first | omega | exact Nat.le_refl _⟩, ⟨bA_ BK242⟩, ⟨bA_ BK243⟩, ⟨bB_ HB⟩⟩
    ·rw [if_neg c11] at H
     have c11b0 : (a0_0 == a1_0) = false := beq_eq_false_iff_ne.mpr c11
     have c11b1 : (a0_0 != a1_0) = true := bne_iff_ne.mpr c11
     (first | rw [c11b0] | (simp only [i64_w, i32_w]; rw [c11b0]) | skip)
     have H' := zA H
     clear H
     have hnb28 := NB242_243.out
     have hnc28 := NB243_242.out
     have hcz29_0 : w6.cell? ⟨gb242, 0, none⟩ = some (.int .i64 a0_0) := (blk_cell BK242.out 0).trans rfl
     have hcz29_1 : w6.cell? ⟨gb242, 1, none⟩ = some (.int .i64 a0_1) := (blk_cell BK242.out 1).trans rfl
     have hcz29_2 : w6.cell? ⟨gb242, 2, none⟩ = some (.slice A0_2 l0_2.length c0_2) := (blk_cell BK242.out 2).trans rfl
     have hfz29_0 := blk_frozen BK242.out 0
     have hfz29_1 := blk_frozen BK242.out 1
     have hfz29_2 := blk_frozen BK242.out 2
     go_wp2_with (first | ((with_reducible refine gate_callee (f := 44) rfl ?_); refine goesL_ (some 10) rfl rfl Try.func44 (by kernel_rfl) rfl #[.agg #[.int .i64 a0_0, .int .i64 a0_1, .slice A0_2 l0_2.length c0_2]] rfl (by (try simp only [List.map_toArray, List.map_cons, List.map_nil]); first | done | rfl | (simp only [List.length_drop, List.length_take]; rfl)) ?_; (with_reducible refine (impl_FieldOK.calls k a0_0 a0_1 _ _ l0_2 true _ ?side1 ?side2 A7.out).mono ?_); (case side1 => repeat (first | exact (Kd.C_below HR0_2.out HB.out) | (with_reducible refine zI ?_ _) | (with_reducible refine zH ?_ _) | (with_reducible refine zJ ?_))); (case side2 => exact HC0_2.out); rintro e w30 ⟨rfl, hb⟩; refine ⟨_, rfl, ?_⟩; have n0_ := zA (zU (g := gb242) (o := .cells #[.int .i64 a0_0, .int .i64 a0_1, .slice A0_2 l0_2.length c0_2] 26 (0, 0)) (bA_ BK242) hb); have n1_ := zA (zU (g := gb243) (o := .cells #[.int .i64 a1_0, .int .i64 a1_1, .slice A1_2 l1_2.length c1_2] 26 (0, 0)) (bA_ BK243) hb); have n2_ := zA (below_step (bB_ HB) hb); clear BK242; clear BK243; clear HB; have BK242 := n0_; have BK243 := n1_; have HB := n2_; clear n0_ n1_ n2_; (try clear hb); (try clear hb2); (try clear hk); (try clear hi); have hcz31_0 : w30.cell? ⟨gb243, 0, none⟩ = some (.int .i64 a1_0) := (blk_cell BK243.out 0).trans rfl; have hcz31_1 : w30.cell? ⟨gb243, 1, none⟩ = some (.int .i64 a1_1) := (blk_cell BK243.out 1).trans rfl; have hcz31_2 : w30.cell? ⟨gb243, 2, none⟩ = some (.slice A1_2 l1_2.length c1_2) := (blk_cell BK243.out 2).trans rfl; have hfz31_0 := blk_frozen BK243.out 0; have hfz31_1 := blk_frozen BK243.out 1; have hfz31_2 := blk_frozen BK243.out 2) | (go_at_call 44; (with_reducible refine (impl_FieldOK.calls k a1_0 a1_1 _ _ l1_2 true _ ?side1 ?side2 A9.out).mono ?_); (case side1 => repeat (first | exact (Kd.C_below HR1_2.out HB.out) | (with_reducible refine zI ?_ _) | (with_reducible refine zH ?_ _) | (with_reducible refine zJ ?_))); (case side2 => exact HC1_2.out); rintro e w32 ⟨rfl, hb⟩; have n0_ := zA (zU (g := gb242) (o := .cells #[.int .i64 a0_0, .int .i64 a0_1, .slice A0_2 l0_2.length c0_2] 26 (0, 0)) (bA_ BK242) hb); have n1_ := zA (zU (g := gb243) (o := .cells #[.int .i64 a1_0, .int .i64 a1_1, .slice A1_2 l1_2.length c1_2] 26 (0, 0)) (bA_ BK243) hb); have n2_ := zA (below_step (bB_ HB) hb); clear BK242; clear BK243; clear HB; have BK242 := n0_; have BK243 := n1_; have HB := n2_; clear n0_ n1_ n2_; (try clear hb); (try clear hb2); (try clear hk); (try clear hi); have hcz33_0 : w32.cell? ⟨gb242, 0, none⟩ = some (.int .i64 a0_0) := (blk_cell BK242.out 0).trans rfl; have hcz33_1 : w32.cell? ⟨gb242, 1, none⟩ = some (.int .i64 a0_1) := (blk_cell BK242.out 1).trans rfl; have hcz33_2 : w32.cell? ⟨gb242, 2, none⟩ = some (.slice A0_2 l0_2.length c0_2) := (blk_cell BK242.out 2).trans rfl; have hfz33_0 := blk_frozen BK242.out 0; have hfz33_1 := blk_frozen BK242.out 1; have hfz33_2 := blk_frozen BK242.out 2; have hcz34_0 : w32.cell? ⟨gb243, 0, none⟩ = some (.int .i64 a1_0) := (blk_cell BK243.out 0).trans rfl; have hcz34_1 : w32.cell? ⟨gb243, 1, none⟩ = some (.int .i64 a1_1) := (blk_cell BK243.out 1).trans rfl; have hcz34_2 : w32.cell? ⟨gb243, 2, none⟩ = some (.slice A1_2 l1_2.length c1_2) := (blk_cell BK243.out 2).trans rfl; have hfz34_0 := blk_frozen BK243.out 0; have hfz34_1 := blk_frozen BK243.out 1; have hfz34_2 := blk_frozen BK243.out 2))
     go_meet
     case rel => exact ⟨_, (true), (by first | rfl | (simp; done) | (simp [*]; done)), H', ⟨by first | omega | exact Nat.le_refl _⟩, ⟨bA_ BK242⟩, ⟨bA_ BK243⟩, ⟨bB_ HB⟩⟩
   ·replace c10 := Bool.eq_false_iff.mpr c10
    subst c10
    have H1 : (impl_millOK.j0 k true a0_0 a0_1 l0_2 a1_0 a1_1 l1_2) = some r := by rw [if_neg (show ¬ (false = true) by decide)] at H; exact H
    clear H
    have H := H1
    clear H1
    have H' := zA H
    clear H
    have hnb35 := NB242_243.out
    have hnc35 := NB243_242.out
    have hcz36_0 : w6.cell? ⟨gb242, 0, none⟩ = some (.int .i64 a0_0) := (blk_cell BK242.out 0).trans rfl
    have hcz36_1 : w6.cell? ⟨gb242, 1, none⟩ = some (.int .i64 a0_1) := (blk_cell BK242.out 1).trans rfl
    have hcz36_2 : w6.cell? ⟨gb242, 2, none⟩ = some (.slice A0_2 l0_2.length c0_2) := (blk_cell BK242.out 2).trans rfl
    have hfz36_0 := blk_frozen BK242.out 0
    have hfz36_1 := blk_frozen BK242.out 1
    have hfz36_2 := blk_frozen BK242.out 2
    go_wp2_with (first | ((with_reducible refine gate_callee (f := 44) rfl ?_); refine goesL_ (some 10) rfl rfl Try.func44 (by kernel_rfl) rfl #[.agg #[.int .i64 a0_0, .int .i64 a0_1, .slice A0_2 l0_2.length c0_2]] rfl (by (try simp only [List.map_toArray, List.map_cons, List.map_nil]); first | done | rfl | (simp only [List.length_drop, List.length_take]; rfl)) ?_; (with_reducible refine (impl_FieldOK.calls k a0_0 a0_1 _ _ l0_2 true _ ?side1 ?side2 A7.out).mono ?_); (case side1 => repeat (first | exact (Kd.C_below HR0_2.out HB.out) | (with_reducible refine zI ?_ _) | (with_reducible refine zH ?_ _) | (with_reducible refine zJ ?_))); (case side2 => exact HC0_2.out); rintro e w37 ⟨rfl, hb⟩; refine ⟨_, rfl, ?_⟩; have n0_ := zA (zU (g := gb242) (o := .cells #[.int .i64 a0_0, .int .i64 a0_1, .slice A0_2 l0_2.length c0_2] 26 (0, 0)) (bA_ BK242) hb); have n1_ := zA (zU (g := gb243) (o := .cells #[.int .i64 a1_0, .int .i64 a1_1, .slice A1_2 l1_2.length c1_2] 26 (0, 0)) (bA_ BK243) hb); have n2_ := zA (below_step (bB_ HB) hb); clear BK242; clear BK243; clear HB; have BK242 := n0_; have BK243 := n1_; have HB := n2_; clear n0_ n1_ n2_; (try clear hb); (try clear hb2); (try clear hk); (try clear hi); have hcz38_0 : w37.cell? ⟨gb243, 0, none⟩ = some (.int .i64 a1_0) := (blk_cell BK243.out 0).trans rfl; have hcz38_1 : w37.cell? ⟨gb243, 1, none⟩ = some (.int .i64 a1_1) := (blk_cell BK243.out 1).trans rfl; have hcz38_2 : w37.cell? ⟨gb243, 2, none⟩ = some (.slice A1_2 l1_2.length c1_2) := (blk_cell BK243.out 2).trans rfl; have hfz38_0 := blk_frozen BK243.out 0; have hfz38_1 := blk_frozen BK243.out 1; have hfz38_2 := blk_frozen BK243.out 2) | (go_at_call 44; (with_reducible refine (impl_FieldOK.calls k a1_0 a1_1 _ _ l1_2 false _ ?side1 ?side2 A9.out).mono ?_); (case side1 => repeat (first | exact (Kd.C_below HR1_2.out HB.out) | (with_reducible refine zI ?_ _) | (with_reducible refine zH ?_ _) | (with_reducible refine zJ ?_))); (case side2 => exact HC1_2.out); rintro e w39 ⟨rfl, hb⟩; have n0_ := zA (zU (g := gb242) (o := .cells #[.int .i64 a0_0, .int .i64 a0_1, .slice A0_2 l0_2.length c0_2] 26 (0, 0)) (bA_ BK242) hb); have n1_ := zA (zU (g := gb243) (o := .cells #[.int .i64 a1_0, .int .i64 a1_1, .slice A1_2 l1_2.length c1_2] 26 (0, 0)) (bA_ BK243) hb); have n2_ := zA (below_step (bB_ HB) hb); clear BK242; clear BK243; clear HB; have BK242 := n0_; have BK243 := n1_; have HB := n2_; clear n0_ n1_ n2_; (try clear hb); (try clear hb2); (try clear hk); (try clear hi)))
    go_meet
    case rel => exact ⟨_, (true), (by first | rfl | (simp; done) | (simp [*]; done)), H', ⟨by first | omega | exact Nat.le_refl _⟩, ⟨bA_ BK242⟩, ⟨bA_ BK243⟩, ⟨bB_ HB⟩⟩
  ·replace c8 := Bool.eq_false_iff.mpr c8
   subst c8
   have H1 : (impl_millOK.j0 k true a0_0 a0_1 l0_2 a1_0 a1_1 l1_2) = some r := by rw [if_neg (show ¬ (false = true) by decide)] at H; exact H
   clear H
   have H := H1
   clear H1
   have H' := zA H
   clear H
   have hnb40 := NB242_243.out
   have hnc40 := NB243_242.out
   have hcz41_0 : w6.cell? ⟨gb242, 0, none⟩ = some (.int .i64 a0_0) := (blk_cell BK242.out 0).trans rfl
   have hcz41_1 : w6.cell? ⟨gb242, 1, none⟩ = some (.int .i64 a0_1) := (blk_cell BK242.out 1).trans rfl
   have hcz41_2 : w6.cell? ⟨gb242, 2, none⟩ = some (.slice A0_2 l0_2.length c0_2) := (blk_cell BK242.out 2).trans rfl
   have hfz41_0 := blk_frozen BK242.out 0
   have hfz41_1 := blk_frozen BK242.out 1
   have hfz41_2 := blk_frozen BK242.out 2
   go_wp2_with (first | ((with_reducible refine gate_callee (f := 44) rfl ?_); refine goesL_ (some 10) rfl rfl Try.func44 (by kernel_rfl) rfl #[.agg #[.int .i64 a0_0, .int .i64 a0_1, .slice A0_2 l0_2.length c0_2]] rfl (by (try simp only [List.map_toArray, List.map_cons, List.map_nil]); first | done | rfl | (simp only [List.length_drop, List.length_take]; rfl)) ?_; (with_reducible refine (impl_FieldOK.calls k a0_0 a0_1 _ _ l0_2 false _ ?side1 ?side2 A7.out).mono ?_); (case side1 => repeat (first | exact (Kd.C_below HR0_2.out HB.out) | (with_reducible refine zI ?_ _) | (with_reducible refine zH ?_ _) | (with_reducible refine zJ ?_))); (case side2 => exact HC0_2.out); rintro e w42 ⟨rfl, hb⟩; refine ⟨_, rfl, ?_⟩; have n0_ := zA (zU (g := gb242) (o := .cells #[.int .i64 a0_0, .int .i64 a0_1, .slice A0_2 l0_2.length c0_2] 26 (0, 0)) (bA_ BK242) hb); have n1_ := zA (zU (g := gb243) (o := .cells #[.int .i64 a1_0, .int .i64 a1_1, .slice A1_2 l1_2.length c1_2] 26 (0, 0)) (bA_ BK243) hb); have n2_ := zA (below_step (bB_ HB) hb); clear BK242; clear BK243; clear HB; have BK242 := n0_; have BK243 := n1_; have HB := n2_; clear n0_ n1_ n2_; (try clear hb); (try clear hb2); (try clear hk); (try clear hi)))
   go_meet
   case rel => exact ⟨_, (true), (by first | rfl | (simp; done) | (simp [*]; done)), H', ⟨by first | omega | exact Nat.le_refl _⟩, ⟨bA_ BK242⟩, ⟨bA_ BK243⟩, ⟨bB_ HB⟩⟩
 case rest =>
  clear HC4
  try clear c1
  try clear c2
  try clear p2
  try clear c3
  try clear c4
  try clear c6
  try clear c8
  try clear c10
  try clear c11
  try clear c11b0
  try clear c11b1
  try clear c12
  try clear c12b0
  try clear c12b1
  try clear c14
  try clear c21
  try clear c28
  try clear c35
  try clear c40
  try clear hcz15_0
  try clear hcz15_1
  try clear hcz15_2
  try clear hcz17_0
  try clear hcz17_1
  try clear hcz17_2
  try clear hcz19_0
  try clear hcz19_1
  try clear hcz19_2
  try clear hcz20_0
  try clear hcz20_1
  try clear hcz20_2
  try clear hcz22_0
  try clear hcz22_1
  try clear hcz22_2
  try clear hcz24_0
  try clear hcz24_1
  try clear hcz24_2
  try clear hcz26_0
  try clear hcz26_1
  try clear hcz26_2
  try clear hcz27_0
  try clear hcz27_1
  try clear hcz27_2
  try clear hcz29_0
  try clear hcz29_1
  try clear hcz29_2
  try clear hcz31_0
  try clear hcz31_1
  try clear hcz31_2
  try clear hcz33_0
  try clear hcz33_1
  try clear hcz33_2
  try clear hcz34_0
  try clear hcz34_1
  try clear hcz34_2
  try clear hcz36_0
  try clear hcz36_1
  try clear hcz36_2
  try clear hcz38_0
  try clear hcz38_1
  try clear hcz38_2
  try clear hcz41_0
  try clear hcz41_1
  try clear hcz41_2
  try clear hfz15_0
  try clear hfz15_1
  try clear hfz15_2
  try clear hfz17_0
  try clear hfz17_1
  try clear hfz17_2
  try clear hfz19_0
  try clear hfz19_1
  try clear hfz19_2
  try clear hfz20_0
  try clear hfz20_1
  try clear hfz20_2
  try clear hfz22_0
  try clear hfz22_1
  try clear hfz22_2
  try clear hfz24_0
  try clear hfz24_1
  try clear hfz24_2
  try clear hfz26_0
  try clear hfz26_1
  try clear hfz26_2
  try clear hfz27_0
  try clear hfz27_1
  try clear hfz27_2
  try clear hfz29_0
  try clear hfz29_1
  try clear hfz29_2
  try clear hfz31_0
  try clear hfz31_1
  try clear hfz31_2
  try clear hfz33_0
  try clear hfz33_1
  try clear hfz33_2
  try clear hfz34_0
  try clear hfz34_1
  try clear hfz34_2
  try clear hfz36_0
  try clear hfz36_1
  try clear hfz36_2
  try clear hfz38_0
  try clear hfz38_1
  try clear hfz38_2
  try clear hfz41_0
  try clear hfz41_1
  try clear hfz41_2
  obtain ⟨kq, x35_3, rfl, HA, HJ3, BK242, BK243, HB⟩ := hcut
  cases kq with
  | zero => exact absurd HA.out (by simp [impl_millOK.j0])
  | succ kj3 =>
   have H := HA.out
   clear HA
   simp only [impl_millOK.j0] at H
   by_cases c43 : x35_3 = true
   ·subst c43
    have H1 : (some false) = some r := by rw [if_pos rfl] at H; exact H
    clear H
    have H := H1
    clear H1
    obtain rfl := Option.some.inj H
    go_wp2
    go_ret
    exact ⟨by first | rfl | (simp [errW_none, errW_some] <;> rfl) | (simp [*, errW_none, errW_some] <;> rfl), bB_ HB⟩
   ·replace c43 := Bool.eq_false_iff.mpr c43
    subst c43
    have H1 : (impl_millOK.l0 kj3 l1_2 (l1_2.length : Int) 0 a0_0 a0_1 l0_2) = some r := by rw [if_neg (show ¬ (false = true) by decide)] at H; exact H
    clear H
    have H := H1
    clear H1
    have H' := zA H
    clear H
    have hnb44 := NB243_242.out
    have hnc44 := NB242_243.out
    have hcz45_0 : wc.cell? ⟨gb243, 0, none⟩ = some (.int .i64 a1_0) := (blk_cell BK243.out 0).trans rfl
    have hcz45_1 : wc.cell? ⟨gb243, 1, none⟩ = some (.int .i64 a1_1) := (blk_cell BK243.out 1).trans rfl
    have hcz45_2 : wc.cell? ⟨gb243, 2, none⟩ = some (.slice A1_2 l1_2.length c1_2) := (blk_cell BK243.out 2).trans rfl
    have hfz45_0 := blk_frozen BK243.out 0
    have hfz45_1 := blk_frozen BK243.out 1
    have hfz45_2 := blk_frozen BK243.out 2
    go_wp2
    go_loopg [39] kj3 (fun kq v39 w' => ∃ (x39_2 : Int), v39 = .int .i64 x39_2 ∧ Aside0 (impl_millOK.l0 kq l1_2 (l1_2.length : Int) x39_2 a0_0 a0_1 l0_2 = some r) ∧ Aside0 (kq ≤ kj3) ∧ Aside0 (w'.heap[gb242]? = some (.cells #[.int .i64 a0_0, .int .i64 a0_1, (.slice A0_2 l0_2.length c0_2)] 26 (0, 0))) ∧ Aside0 (w'.heap[gb243]? = some (.cells #[.int .i64 a1_0, .int .i64 a1_1, (.slice A1_2 l1_2.length c1_2)] 26 (0, 0))) ∧ Aside0 (Below w.heap.size w w'))
    case atStart => exact ⟨(0), (by first | rfl | (simp; done) | (simp [*]; done)), H', ⟨Nat.le_refl _⟩, ⟨bA_ BK242⟩, ⟨bA_ BK243⟩, ⟨bB_ HB⟩⟩
    case round =>
     clear H'
     try clear c1
     try clear c2
     try clear p2
     try clear c3
     try clear c4
     try clear c6
     try clear c8
     try clear c10
     try clear c11
     try clear c11b0
     try clear c11b1
     try clear c12
     try clear c12b0
     try clear c12b1
     try clear c14
     try clear c21
     try clear c28
     try clear c35
     try clear c40
     try clear c43
     try clear c44
     try clear hcz15_0
     try clear hcz15_1
     try clear hcz15_2
     try clear hcz17_0
     try clear hcz17_1
     try clear hcz17_2
     try clear hcz19_0
     try clear hcz19_1
     try clear hcz19_2
     try clear hcz20_0
     try clear hcz20_1
     try clear hcz20_2
     try clear hcz22_0
     try clear hcz22_1
     try clear hcz22_2
     try clear hcz24_0
     try clear hcz24_1
     try clear hcz24_2
     try clear hcz26_0
     try clear hcz26_1
     try clear hcz26_2
     try clear hcz27_0
     try clear hcz27_1
     try clear hcz27_2
     try clear hcz29_0
     try clear hcz29_1
     try clear hcz29_2
     try clear hcz31_0
     try clear hcz31_1
     try clear hcz31_2
     try clear hcz33_0
     try clear hcz33_1
     try clear hcz33_2
     try clear hcz34_0
     try clear hcz34_1
     try clear hcz34_2
     try clear hcz36_0
     try clear hcz36_1
     try clear hcz36_2
     try clear hcz38_0
     try clear hcz38_1
     try clear hcz38_2
     try clear hcz41_0
     try clear hcz41_1
     try clear hcz41_2
     try clear hcz45_0
     try clear hcz45_1
     try clear hcz45_2
     try clear hfz15_0
     try clear hfz15_1
     try clear hfz15_2
     try clear hfz17_0
     try clear hfz17_1
     try clear hfz17_2
     try clear hfz19_0
     try clear hfz19_1
     try clear hfz19_2
     try clear hfz20_0
     try clear hfz20_1
     try clear hfz20_2
     try clear hfz22_0
     try clear hfz22_1
     try clear hfz22_2
     try clear hfz24_0
     try clear hfz24_1
     try clear hfz24_2
     try clear hfz26_0
     try clear hfz26_1
     try clear hfz26_2
     try clear hfz27_0
     try clear hfz27_1
     try clear hfz27_2
     try clear hfz29_0
     try clear hfz29_1
     try clear hfz29_2
     try clear hfz31_0
     try clear hfz31_1
     try clear hfz31_2
     try clear hfz33_0
     try clear hfz33_1
     try clear hfz33_2
     try clear hfz34_0
     try clear hfz34_1
     try clear hfz34_2
     try clear hfz36_0
     try clear hfz36_1
     try clear hfz36_2
     try clear hfz38_0
     try clear hfz38_1
     try clear hfz38_2
     try clear hfz41_0
     try clear hfz41_1
     try clear hfz41_2
     try clear hfz45_0
     try clear hfz45_1
     try clear hfz45_2
     try clear p2
     obtain ⟨x39_2, rfl, HA, HK2, BK242, BK243, HB⟩ := hrel
     cases gk with
     | zero => exact absurd HA.out (by simp [impl_millOK.l0])
     | succ k2 =>
      have H := HA.out
      clear HA
      simp only [impl_millOK.l0] at H
      by_cases c46 : x39_2 < (l1_2.length : Int)
      ·rw [if_pos c46] at H
       have c46b0 : decide (x39_2 < (l1_2.length : Int)) = true := decide_eq_true c46
       clear c46
       by_cases c47 : 0 ≤ x39_2
       ·rw [if_pos c47] at H
        have c47b0 : decide (0 ≤ x39_2) = true := decide_eq_true c47
        clear c47
        by_cases c48 : x39_2 < (l1_2.length : Int)
        ·rw [if_pos c48] at H
         have c48b0 : decide (x39_2 < (l1_2.length : Int)) = true := decide_eq_true c48
         clear c48
         by_cases c49 : x39_2 < (l0_2.length : Int)
         ·rw [if_pos c49] at H
          have c49b0 : decide (x39_2 < (l0_2.length : Int)) = true := decide_eq_true c49
          clear c49
          by_cases c50 : (rd l1_2 x39_2) > (rd l0_2 x39_2)
          ·rw [if_pos c50] at H
           have c50b0 : decide ((rd l0_2 x39_2) < (rd l1_2 x39_2)) = true := decide_eq_true c50
           clear c50
           obtain rfl := Option.some.inj H
           have p247 : 0 ≤ (x39_2 : Int) := of_decide_eq_true (by first | (with_reducible assumption) | assumption)
           have q247 : x39_2 < (l1_2.length : Int) := of_decide_eq_true (by first | (with_reducible assumption) | assumption)
           obtain ⟨ad247, e247, hx247_0⟩ := Kd.at_int HR1_2.out x39_2 p247 q247
           cases e247
           replace hx247_0 := hb_ HB.out hx247_0
           replace p247 := eq_true p247
           replace q247 := eq_true q247
           have hnb51 := NB242_243.out
           have hnc51 := NB243_242.out
           have hcz52_0 : wr.cell? ⟨gb242, 0, none⟩ = some (.int .i64 a0_0) := (blk_cell BK242.out 0).trans rfl
           have hcz52_1 : wr.cell? ⟨gb242, 1, none⟩ = some (.int .i64 a0_1) := (blk_cell BK242.out 1).trans rfl
           have hcz52_2 : wr.cell? ⟨gb242, 2, none⟩ = some (.slice A0_2 l0_2.length c0_2) := (blk_cell BK242.out 2).trans rfl
           have hfz52_0 := blk_frozen BK242.out 0
           have hfz52_1 := blk_frozen BK242.out 1
           have hfz52_2 := blk_frozen BK242.out 2
           have p248 : 0 ≤ (x39_2 : Int) := of_decide_eq_true (by first | (with_reducible assumption) | assumption)
           have q248 : x39_2 < (l0_2.length : Int) := of_decide_eq_true (by first | (with_reducible assumption) | assumption)
           obtain ⟨ad248, e248, hx248_0⟩ := Kd.at_int HR0_2.out x39_2 p248 q248
           cases e248
           replace hx248_0 := hb_ HB.out hx248_0
           replace p248 := eq_true p248
           replace q248 := eq_true q248
           go_wp2
           go_ret
           exact ⟨by first | rfl | (simp [errW_none, errW_some] <;> rfl) | (simp [*, errW_none, errW_some] <;> rfl), bB_ HB⟩
          ·rw [if_neg c50] at H
           have c50b0 : decide ((rd l0_2 x39_2) < (rd l1_2 x39_2)) = false := decide_eq_false c50
           clear c50
           have H' := zA H
           clear H
           have p247 : 0 ≤ (x39_2 : Int) := of_decide_eq_true (by first | (with_reducible assumption) | assumption)
           have q247 : x39_2 < (l1_2.length : Int) := of_decide_eq_true (by first | (with_reducible assumption) | assumption)
           obtain ⟨ad247, e247, hx247_0⟩ := Kd.at_int HR1_2.out x39_2 p247 q247
           cases e247
           replace hx247_0 := hb_ HB.out hx247_0
           replace p247 := eq_true p247
           replace q247 := eq_true q247
           have hnb53 := NB242_243.out
           have hnc53 := NB243_242.out
           have hcz54_0 : wr.cell? ⟨gb242, 0, none⟩ = some (.int .i64 a0_0) := (blk_cell BK242.out 0).trans rfl
           have hcz54_1 : wr.cell? ⟨gb242, 1, none⟩ = some (.int .i64 a0_1) := (blk_cell BK242.out 1).trans rfl
           have hcz54_2 : wr.cell? ⟨gb242, 2, none⟩ = some (.slice A0_2 l0_2.length c0_2) := (blk_cell BK242.out 2).trans rfl
           have hfz54_0 := blk_frozen BK242.out 0
           have hfz54_1 := blk_frozen BK242.out 1
           have hfz54_2 := blk_frozen BK242.out 2
           have p248 : 0 ≤ (x39_2 : Int) := of_decide_eq_true (by first | (with_reducible assumption) | assumption)
           have q248 : x39_2 < (l0_2.length : Int) := of_decide_eq_true (by first | (with_reducible assumption) | assumption)
           obtain ⟨ad248, e248, hx248_0⟩ := Kd.at_int HR0_2.out x39_2 p248 q248
           cases e248
           replace hx248_0 := hb_ HB.out hx248_0
           replace p248 := eq_true p248
           replace q248 := eq_true q248
           go_wp2
           go_roundg k2
           case measure => have := HJ3.out; have := HK2.out; omega
           case rel => exact ⟨(wrap64 (x39_2 + 1)), (by first | rfl | (simp; done) | (simp [*]; done)), H', ⟨by have := HJ3.out; have := HK2.out; omega⟩, ⟨bA_ BK242⟩, ⟨bA_ BK243⟩, ⟨bB_ HB⟩⟩
         ·rw [if_neg c49] at H
          exact absurd H (by simp)
        ·rw [if_neg c48] at H
         exact absurd H (by simp)
       ·rw [if_neg c47] at H
        exact absurd H (by simp)
      ·rw [if_neg c46] at H
       have c46b0 : decide (x39_2 < (l1_2.length : Int)) = false := decide_eq_false c46
       clear c46
       obtain rfl := Option.some.inj H
       go_wp2
       go_ret
       exact ⟨by first | rfl | (simp [errW_none, errW_some] <;> rfl) | (simp [*, errW_none, errW_some] <;> rfl), bB_ HB⟩

def impl_Zigzag_1.l0 : Nat → Int → Int → Int → Bool → List Int → Int → Int → List Int → List (S61) → Int → Option (Int × (List (S61)) × List Int)
 | 0, _, _, _, _, _, _, _, _, _, _ => none
 | k + 1, x0, x1, x2, x11, x18, x19, x20, x252000, x253000, x254000 => if x20 < x19 then (if 0 ≤ x20 then (if x20 < (x18.length : Int) then (if 0 ≤ (rd x18 x20) then (if (rd x18 x20) < (x252000.length : Int) then (if (rd x252000 (rd x18 x20)) > x2 then (impl_Zigzag_1.l0 k x0 x1 x2 true x18 x19 (wrap64 (x20 + 1)) (x252000.set ((rd x18 x20) : Int).toNat x2) x253000 x254000) else (impl_Zigzag_1.l0 k x0 x1 x2 x11 x18 x19 (wrap64 (x20 + 1)) x252000 x253000 x254000)) else (none)) else (none)) else (none)) else (none)) else (if x11 = true then ((some (([(⟨true, x0, x254000, 24⟩ : S61), (⟨true, x0, x1, 24⟩ : S61), (⟨false, x0, x1, x2⟩ : S61), (⟨true, x0, x1, 24⟩ : S61)] : List (S61)) : List (S61))).bind fun y260 => (if x253000.length + y260.length < 4398046511104 then (some (x1, (x253000 ++ y260), x252000)) else (none))) else (some (x254000, x253000, x252000)))
def impl_Zigzag_1.f (k : Nat) (a0 : Int) (a1 : Int) (a2 : Int) (a3_0 : Int) (a3_1 : Int) (l3_2 : List Int) (a4 : Int) (l5_0 : List Int) (l6_0 : List (S61)) (a7 : Int) : Option (Int × (List (S61)) × List Int) := (impl_tool.f k a3_0 a3_1 l3_2 a4 a0 a1).bind fun t254 => (impl_Zigzag_1.l0 k a0 a1 a2 false t254 (t254.length : Int) 0 l5_0 l6_0 a7)
theorem impl_Zigzag_1.mono_l : ∀ k, (∀ y0 y1 y2 y3 y4 y5 y6 y7 y8 y9, LeO (impl_Zigzag_1.l0 k y0 y1 y2 y3 y4 y5 y6 y7 y8 y9) (impl_Zigzag_1.l0 (k + 1) y0 y1 y2 y3 y4 y5 y6 y7 y8 y9))
 | 0 => fun _ _ _ _ _ _ _ _ _ _ r h => by simp [impl_Zigzag_1.l0] at h
 | k + 1 => by
  have ih0 := impl_Zigzag_1.mono_l k
  ·intro y0 y1 y2 y3 y4 y5 y6 y7 y8 y9
   unfold impl_Zigzag_1.l0
   repeat' first
   | (with_reducible exact ih0 _ _ _ _ _ _ _ _ _ _)
   | (with_reducible exact impl_tool.mono _ _ _ _ _ _ _)
   | (with_reducible exact LeO.refl _)
   | (with_reducible exact LeO.none _)
   | (with_reducible refine LeO.ite ?_ ?_)
   | (with_reducible refine LeO.bind ?_ (fun _ => ?_))
   | exact ih0 _ _ _ _ _ _ _ _ _ _
   | exact impl_tool.mono _ _ _ _ _ _ _
   | exact LeO.none _
   | refine LeO.ite ?_ ?_
   | refine LeO.bind ?_ (fun _ => ?_)
theorem impl_Zigzag_1.mono : ∀ a0 a1 a2 a3 a4 a5 a6 a7 a8 a9 k, LeO (impl_Zigzag_1.f k a0 a1 a2 a3 a4 a5 a6 a7 a8 a9) (impl_Zigzag_1.f (k + 1) a0 a1 a2 a3 a4 a5 a6 a7 a8 a9) := by
 intro a0 a1 a2 a3 a4 a5 a6 a7 a8 a9 k
 have ih0 := impl_Zigzag_1.mono_l k
 unfold impl_Zigzag_1.f
 repeat' first
   | (with_reducible exact ih0 _ _ _ _ _ _ _ _ _ _)
   | (with_reducible exact impl_tool.mono _ _ _ _ _ _ _)
   | (with_reducible exact LeO.refl _)
   | (with_reducible exact LeO.none _)
   | (with_reducible refine LeO.ite ?_ ?_)
   | (with_reducible refine LeO.bind ?_ (fun _ => ?_))
   | exact ih0 _ _ _ _ _ _ _ _ _ _
   | exact impl_tool.mono _ _ _ _ _ _ _
   | exact LeO.none _
   | refine LeO.ite ?_ ?_
   | refine LeO.bind ?_ (fun _ => ?_)
set_option maxHeartbeats 8000000 in
set_option maxRecDepth 100000 in
theorem impl_Zigzag_1.calls (k : Nat) (a0 : Int) (a1 : Int) (a2 : Int) (a3_0 : Int) (a3_1 : Int) (A3_2 : Option Addr) (c3_2 : Nat) (l3_2 : List Int) (a4 : Int) (P5_0_ : Nat → Prop) (u9000_ : Value) (l5_0 : List Int) (P6_0_ : Nat → Prop) (u9001_ : Value) (l6_0 : List (S61)) (a7 : Int) (r1 : Int) (r2 : List (S61)) (r3 : List Int) (w0 w : World) (hB : Below w0.heap.size w0 w) (hr3_2 : ∀ W_, Kept w W_ (fun k_ => P5_0_ k_ ∨ P6_0_ k_) → Kd.C (Kd.int .i64) W_ A3_2 l3_2.length l3_2) (hc3_2 : l3_2.length ≤ c3_2) (ho5_0 : Kd.R (Kd.int .i64) 3 w w0.heap.size P5_0_ u9000_ l5_0) (ho6_0 : Kd.R k61 61 w w0.heap.size P6_0_ u9001_ l6_0) (gb249 : Nat) (hM249 : w.heap[gb249]? = some (.cells #[.int .i64 a3_0, .int .i64 a3_1, .slice A3_2 l3_2.length c3_2] 26 (0, 0))) (hE249 : w0.heap.size ≤ gb249) (gb250 : Nat) (hM250 : w.heap[gb250]? = some (.cells #[.int .i64 a4] 3 (0, 0))) (hE250 : w0.heap.size ≤ gb250) (gb251 : Nat) (hM251 : w.heap[gb251]? = some (.cells #[u9000_] 22 (0, 0))) (hE251 : w0.heap.size ≤ gb251) (gb252 : Nat) (hM252 : w.heap[gb252]? = some (.cells #[u9001_] 47 (0, 0))) (hE252 : w0.heap.size ≤ gb252) (gb253 : Nat) (hM253 : w.heap[gb253]? = some (.cells #[.int .i64 a7] 3 (0, 0))) (hE253 : w0.heap.size ≤ gb253) (hgS252 : P6_0_ gb252) (hgS253 : P6_0_ gb253) (hnR : some gb250 ≠ u9000_.ownBlock) (hnY : some gb253 ≠ u9000_.ownBlock) (hne : gb250 ≠ gb253) (h : impl_Zigzag_1.f k a0 a1 a2 a3_0 a3_1 l3_2 a4 l5_0 l6_0 a7 = some (r1, r2, r3)) :
  Calls Try.prog 61 #[.int .i64 a0, .int .i64 a1, .int .i64 a2, .pointer (some ⟨gb249, 0, none⟩), .pointer (some ⟨gb250, 0, none⟩), .pointer (some ⟨gb251, 0, none⟩), .pointer (some ⟨gb252, 0, none⟩), .pointer (some ⟨gb253, 0, none⟩)] w fun e w' => ∃ v1_ : Value, e = .returned (.tuple #[]) ∧ w'.heap[gb252]? = some (.cells #[v1_] 47 (0, 0)) ∧ w'.heap[gb253]? = some (.cells #[.int .i64 r1] 3 (0, 0)) ∧ Kd.R k61 61 w' w0.heap.size (fun k_ => ((P5_0_ k_ ∨ P6_0_ k_) ∨ w.heap.size ≤ k_)) v1_ r2 ∧ Kd.R (Kd.int .i64) 3 w' w0.heap.size (fun k_ => ((P5_0_ k_ ∨ P6_0_ k_) ∨ w.heap.size ≤ k_)) u9000_ r3 ∧ Below w0.heap.size w0 w' ∧ Kept w w' (fun k_ => P5_0_ k_ ∨ P6_0_ k_) := by
 have hu26 := Try.underlying26
 have hu61 := Try.underlying61
 have HR3_2 := zA hr3_2
 have HC3_2 := zA hc3_2
 clear hr3_2 hc3_2
 have HO5_0 := zA (show Kd.R (Kd.int .i64) 3 w w0.heap.size (fun k_ => ((P5_0_ k_ ∨ P6_0_ k_) ∨ w.heap.size ≤ k_)) u9000_ l5_0 from Kd.R_mono ho5_0 (fun k_ hk => (.inl (.inl hk))))
 have HO6_0 := zA (show Kd.R k61 61 w w0.heap.size (fun k_ => ((P5_0_ k_ ∨ P6_0_ k_) ∨ w.heap.size ≤ k_)) u9001_ l6_0 from Kd.R_mono ho6_0 (fun k_ hk => (.inl (.inr hk))))
 have HK := zA (Kept.refl w (fun k_ => P5_0_ k_ ∨ P6_0_ k_))
 have HW0 := zA hB.size
 have HB := zA hB
 have BK249 := zA hM249
 have BK250 := zA hM250
 have BK251 := zA hM251
 have BK252 := zA hM252
 have BK253 := zA hM253
 have GE249 := zA hE249
 have GE250 := zA hE250
 have GE251 := zA hE251
 have GE252 := zA hE252
 have GE253 := zA hE253
 have NB249_250 := zA (blk_ne BK249.out BK250.out (by decide))
 have NB249_251 := zA (blk_ne BK249.out BK251.out (by decide))
 have NB249_252 := zA (blk_ne BK249.out BK252.out (by decide))
 have NB249_253 := zA (blk_ne BK249.out BK253.out (by decide))
 have NB250_249 := zA (blk_ne BK250.out BK249.out (by decide))
 have NB250_251 := zA (blk_ne BK250.out BK251.out (by decide))
 have NB250_252 := zA (blk_ne BK250.out BK252.out (by decide))
 have NB250_253 := zA (hne)
 have NB251_249 := zA (blk_ne BK251.out BK249.out (by decide))
 have NB251_250 := zA (blk_ne BK251.out BK250.out (by decide))
 have NB251_252 := zA (blk_ne BK251.out BK252.out (by decide))
 have NB251_253 := zA (blk_ne BK251.out BK253.out (by decide))
 have NB252_249 := zA (blk_ne BK252.out BK249.out (by decide))
 have NB252_250 := zA (blk_ne BK252.out BK250.out (by decide))
 have NB252_251 := zA (blk_ne BK252.out BK251.out (by decide))
 have NB252_253 := zA (blk_ne BK252.out BK253.out (by decide))
 have NB253_249 := zA (blk_ne BK253.out BK249.out (by decide))
 have NB253_250 := zA (hne.symm)
 have NB253_251 := zA (blk_ne BK253.out BK251.out (by decide))
 have NB253_252 := zA (blk_ne BK253.out BK252.out (by decide))
 clear hM249 hE249 hM250 hE250 hM251 hE251 hM252 hE252 hM253 hE253
 clear hB
 have H : ((impl_tool.f k a3_0 a3_1 l3_2 a4 a0 a1).bind fun t254 => (impl_Zigzag_1.l0 k a0 a1 a2 false t254 (t254.length : Int) 0 l5_0 l6_0 a7)) = some (r1, r2, r3) := h
 clear h
 replace H := Option.bind_eq_some_iff.mp H
 obtain ⟨t254, A90, H⟩ := H
 replace H : (impl_Zigzag_1.l0 k a0 a1 a2 false t254 (t254.length : Int) 0 l5_0 l6_0 a7) = some (r1, r2, r3) := H
 have A9 := zA A90
 clear A90
 have H' := zA H
 clear H
 go_enter Try.func61, Try.ntmps61
 obtain ⟨Ao12, co12, eo12⟩ := Kd.R_slice HO5_0.out
 subst eo12
 obtain ⟨Ao14, co14, eo14⟩ := Kd.R_slice HO6_0.out
 subst eo14
 have hczq0 : w.cell? ⟨gb249, 0, none⟩ = some (.int .i64 a3_0) := (blk_cell BK249.out 0).trans rfl
 have hfzq0 := blk_frozen BK249.out 0
 have hczq1 : w.cell? ⟨gb249, 1, none⟩ = some (.int .i64 a3_1) := (blk_cell BK249.out 1).trans rfl
 have hfzq1 := blk_frozen BK249.out 1
 have hczq2 : w.cell? ⟨gb249, 2, none⟩ = some (.slice A3_2 l3_2.length c3_2) := (blk_cell BK249.out 2).trans rfl
 have hfzq2 := blk_frozen BK249.out 2
 have hczq3 : w.cell? ⟨gb250, 0, none⟩ = some (.int .i64 a4) := (blk_cell BK250.out 0).trans rfl
 have hfzq3 := blk_frozen BK250.out 0
 have hczq4 : w.cell? ⟨gb251, 0, none⟩ = some (.slice Ao12 l5_0.length co12) := (blk_cell BK251.out 0).trans rfl
 have hfzq4 := blk_frozen BK251.out 0
 have hczq5 : w.cell? ⟨gb252, 0, none⟩ = some (.slice Ao14 l6_0.length co14) := (blk_cell BK252.out 0).trans rfl
 have hfzq5 := blk_frozen BK252.out 0
 have hczq6 : w.cell? ⟨gb253, 0, none⟩ = some (.int .i64 a7) := (blk_cell BK253.out 0).trans rfl
 have hfzq6 := blk_frozen BK253.out 0
 go_wp2_with (first | ((with_reducible refine gate_callee (f := 47) rfl ?_); refine goesL_ (some 18) rfl rfl Try.func47 (by kernel_rfl) rfl #[.agg #[.int .i64 a3_0, .int .i64 a3_1, .slice A3_2 l3_2.length c3_2], .int .i64 a4, .int .i64 a0, .int .i64 a1] rfl (by (try simp only [List.map_toArray, List.map_cons, List.map_nil]); first | done | rfl | (simp only [List.length_drop, List.length_take]; rfl)) ?_; (with_reducible refine (impl_tool.calls k a3_0 a3_1 _ _ l3_2 a4 a0 a1 t254 _ ?side1 ?side2 A9.out).mono ?_); (case side1 => exact Kd.C_kept_now HR3_2.out (by repeat (first | (with_reducible first | exact HK.out | apply Kept.alloc | apply Kept.drewN | apply Kept.drew | refine Kept.setCell ?_ (.inr GW249.out) _ | refine Kept.setCell ?_ (.inr GW250.out) _ | refine Kept.setCell ?_ (.inr GW251.out) _ | refine Kept.setCell (p := ⟨gb252, 0, none⟩) ?_ (.inl (.inr hgS252)) _ | refine Kept.setCell (p := ⟨gb253, 0, none⟩) ?_ (.inl (.inr hgS253)) _) | exact HK.out))); (case side2 => exact HC3_2.out); rintro e w26 ⟨v255, rfl, ho0, hb⟩; refine ⟨_, rfl, ?_⟩; have n0_ := zA (Kd.R_elder' (bC_ HO5_0) (Kd.R_base ho0) hb); have n1_ := zA (zL (bC_ HO6_0) hb); have n2_ := zA (Kd.R_lower (Kd.R_new' (Kd.R_newM (M := fun k_ => ((P5_0_ k_ ∨ P6_0_ k_) ∨ w.heap.size ≤ k_)) ho0 (by first | exact HK.out.1 | exact (show Kept w _ (fun k_ => P5_0_ k_ ∨ P6_0_ k_) from by repeat (first | (with_reducible first | exact HK.out | apply Kept.alloc | apply Kept.drewN | apply Kept.drew | refine Kept.setCell ?_ (.inr GW249.out) _ | refine Kept.setCell ?_ (.inr GW250.out) _ | refine Kept.setCell ?_ (.inr GW251.out) _ | refine Kept.setCell (p := ⟨gb252, 0, none⟩) ?_ (.inl (.inr hgS252)) _ | refine Kept.setCell (p := ⟨gb253, 0, none⟩) ?_ (.inl (.inr hgS253)) _) | exact HK.out)).1) (fun k_ h_ => .inr h_)) (Kd.R_lt (bC_ HO5_0))) (zT (bB_ HB))); have n3_ := zA (zU (g := gb249) (o := .cells #[.int .i64 a3_0, .int .i64 a3_1, .slice A3_2 l3_2.length c3_2] 26 (0, 0)) (bA_ BK249) hb); have n4_ := zA (zU (g := gb250) (o := .cells #[.int .i64 a4] 3 (0, 0)) (bA_ BK250) hb); have n5_ := zA (zU (g := gb251) (o := .cells #[.slice Ao12 l5_0.length co12] 22 (0, 0)) (bA_ BK251) hb); have n6_ := zA (zU (g := gb252) (o := .cells #[.slice Ao14 l6_0.length co14] 47 (0, 0)) (bA_ BK252) hb); have n7_ := zA (zU (g := gb253) (o := .cells #[.int .i64 a7] 3 (0, 0)) (bA_ BK253) hb); have n8_ := zA (Kept.below (S := (fun k_ => P5_0_ k_ ∨ P6_0_ k_)) (by repeat (first | (with_reducible first | exact HK.out | apply Kept.alloc | apply Kept.drewN | apply Kept.drew | refine Kept.setCell ?_ (.inr GW249.out) _ | refine Kept.setCell ?_ (.inr GW250.out) _ | refine Kept.setCell ?_ (.inr GW251.out) _ | refine Kept.setCell (p := ⟨gb252, 0, none⟩) ?_ (.inl (.inr hgS252)) _ | refine Kept.setCell (p := ⟨gb253, 0, none⟩) ?_ (.inl (.inr hgS253)) _) | exact HK.out)) hb); have n9_ := zA (below_step (bB_ HB) hb); clear HO5_0; clear HO6_0; clear BK249; clear BK250; clear BK251; clear BK252; clear BK253; clear HK; clear HB; have HO5_0 := n0_; have HO6_0 := n1_; have HO256 := n2_; have BK249 := n3_; have BK250 := n4_; have BK251 := n5_; have BK252 := n6_; have BK253 := n7_; have HK := n8_; have HB := n9_; clear n0_ n1_ n2_ n3_ n4_ n5_ n6_ n7_ n8_ n9_; (try clear hb); (try clear hb2); (try clear hk); (try clear hi); (try clear ho0); obtain ⟨Ao27, co27, eo27⟩ := Kd.R_slice HO256.out; subst eo27))
 go_loopg [11, 20] k (fun kq v11 v20 w' => ∃ (x11_1 : Bool) (x18_1 : List Int) (x20_1 : Int) (x252000_1 : List Int), v11 = .bool x11_1 ∧ v20 = .int .i64 x20_1 ∧ Aside0 (impl_Zigzag_1.l0 kq a0 a1 a2 x11_1 x18_1 (t254.length : Int) x20_1 x252000_1 l6_0 a7 = some (r1, r2, r3)) ∧ Aside0 (kq ≤ k) ∧ Aside0 (Kd.R (Kd.int .i64) 3 w' w0.heap.size (fun k_ => ((P5_0_ k_ ∨ P6_0_ k_) ∨ w.heap.size ≤ k_) ∧ some k_ ≠ ((.slice Ao12 l5_0.length co12) : Value).ownBlock) (.slice Ao27 t254.length co27) x18_1) ∧ Aside0 (Kd.R (Kd.int .i64) 3 w' w0.heap.size (fun k_ => ((P5_0_ k_ ∨ P6_0_ k_) ∨ w.heap.size ≤ k_) ∧ some k_ ≠ ((.slice Ao27 t254.length co27) : Value).ownBlock) (.slice Ao12 l5_0.length co12) x252000_1) ∧ Aside0 (Kd.R k61 61 w' w0.heap.size (fun k_ => ((P5_0_ k_ ∨ P6_0_ k_) ∨ w.heap.size ≤ k_)) (.slice Ao14 l6_0.length co14) l6_0) ∧ Aside0 (w'.heap[gb249]? = some (.cells #[.int .i64 a3_0, .int .i64 a3_1, (.slice A3_2 l3_2.length c3_2)] 26 (0, 0))) ∧ Aside0 (w'.heap[gb250]? = some (.cells #[.int .i64 a4] 3 (0, 0))) ∧ Aside0 (w'.heap[gb251]? = some (.cells #[(.slice Ao12 l5_0.length co12)] 22 (0, 0))) ∧ Aside0 (w'.heap[gb252]? = some (.cells #[(.slice Ao14 l6_0.length co14)] 47 (0, 0))) ∧ Aside0 (w'.heap[gb253]? = some (.cells #[.int .i64 a7] 3 (0, 0))) ∧ Aside0 (Kept w w' (fun k_ => P5_0_ k_ ∨ P6_0_ k_)) ∧ Aside0 (Below w0.heap.size w0 w'))
 case atStart => exact ⟨(false), (t254), (0), (l5_0), (by first | rfl | (simp; done) | (simp [*]; done)), (by first | rfl | (simp; done) | (simp [*]; done)), H', ⟨Nat.le_refl _⟩, ⟨by (with_reducible repeat (first | apply zF | apply zE | apply zG)); exact Kd.R_mono HO256.out (fun _ hk => ⟨hk.1.1, hk.2⟩)⟩, ⟨bC_ HO5_0⟩, ⟨bC_ HO6_0⟩, ⟨bA_ BK249⟩, ⟨bA_ BK250⟩, ⟨bA_ BK251⟩, ⟨bA_ BK252⟩, ⟨bA_ BK253⟩, ⟨by repeat (first | (with_reducible first | exact HK.out | apply Kept.alloc | apply Kept.drewN | apply Kept.drew | refine Kept.setCell ?_ (.inr GW249.out) _ | refine Kept.setCell ?_ (.inr GW250.out) _ | refine Kept.setCell ?_ (.inr GW251.out) _ | refine Kept.setCell (p := ⟨gb252, 0, none⟩) ?_ (.inl (.inr hgS252)) _ | refine Kept.setCell (p := ⟨gb253, 0, none⟩) ?_ (.inl (.inr hgS253)) _) | exact HK.out)⟩, ⟨bB_ HB⟩⟩
 case round =>
  clear H'
  try clear c1
  try clear c2
  try clear p2
  try clear c3
  try clear c4
  try clear c6
  try clear c17
  try clear c18
  try clear c19
  try clear c20
  try clear c22
  try clear c23
  try clear c24
  try clear hcz21_0
  try clear hcz21_1
  try clear hcz21_2
  try clear hcz25_0
  try clear hfz21_0
  try clear hfz21_1
  try clear hfz21_2
  try clear hfz25_0
  obtain ⟨x11_1, x18_1, x20_1, x252000_1, rfl, rfl, HA, HK1, HO_18, HO_252000, HO_253000, BK249, BK250, BK251, BK252, BK253, HK, HB⟩ := hrel
  have hl18_1 := (zK HO_18.out).1
  rw [hl18_1] at HO_18
  (try simp only [hl18_1])
  (try simp only [hl18_1] at BK249)
  (try simp only [hl18_1] at BK250)
  (try simp only [hl18_1] at BK251)
  (try simp only [hl18_1] at BK252)
  (try simp only [hl18_1] at BK253)
  (try simp only [hl18_1] at HO_252000)
  (try simp only [hl18_1] at HO_253000)
  have hl252000_1 := (zK HO_252000.out).1
  rw [hl252000_1] at HO_252000
  (try simp only [hl252000_1])
  (try simp only [hl252000_1] at BK249)
  (try simp only [hl252000_1] at BK250)
  (try simp only [hl252000_1] at BK251)
  (try simp only [hl252000_1] at BK252)
  (try simp only [hl252000_1] at BK253)
  (try simp only [hl252000_1] at HO_18)
  (try simp only [hl252000_1] at HO_253000)
  cases gk with
  | zero => exact absurd HA.out (by simp [impl_Zigzag_1.l0])
  | succ k1 =>
   have H := HA.out
   clear HA
   simp only [impl_Zigzag_1.l0] at H
   by_cases c28 : x20_1 < (t254.length : Int)
   ·rw [if_pos c28] at H
    have c28b0 : decide (x20_1 < (t254.length : Int)) = true := decide_eq_true c28
    (try (have c28b0l := c28b0; rw [hl18_1] at c28b0l))
    (try (have c28b0l := c28b0; rw [hl252000_1] at c28b0l))
    clear c28
    by_cases c29 : 0 ≤ x20_1
    ·rw [if_pos c29] at H
     have c29b0 : decide (0 ≤ x20_1) = true := decide_eq_true c29
     clear c29
     by_cases c30 : x20_1 < (x18_1.length : Int)
     ·rw [if_pos c30] at H
      have c30b0 : decide (x20_1 < (x18_1.length : Int)) = true := decide_eq_true c30
      (try (have c30b0l := c30b0; rw [hl18_1] at c30b0l))
      (try (have c30b0l := c30b0; rw [hl252000_1] at c30b0l))
      clear c30
      by_cases c31 : 0 ≤ (rd x18_1 x20_1)
      ·rw [if_pos c31] at H
       have c31b0 : decide (0 ≤ (rd x18_1 x20_1)) = true := decide_eq_true c31
       clear c31
       by_cases c32 : (rd x18_1 x20_1) < (x252000_1.length : Int)
       ·rw [if_pos c32] at H
        have c32b0 : decide ((rd x18_1 x20_1) < (x252000_1.length : Int)) = true := decide_eq_true c32
        (try (have c32b0l := c32b0; rw [hl18_1] at c32b0l))
        (try (have c32b0l := c32b0; rw [hl252000_1] at c32b0l))
        clear c32
        by_cases c33 : (rd x252000_1 (rd x18_1 x20_1)) > a2
        ·rw [if_pos c33] at H
         have c33b0 : decide (a2 < (rd x252000_1 (rd x18_1 x20_1))) = true := decide_eq_true c33
         clear c33
         obtain ⟨y259, hy259⟩ : ∃ y_ : List Int, y_ = (x252000_1.set ((rd x18_1 x20_1) : Int).toNat a2) := ⟨_, rfl⟩
         replace H : (impl_Zigzag_1.l0 k1 a0 a1 a2 true x18_1 (t254.length : Int) (wrap64 (x20_1 + 1)) y259 l6_0 a7) = some (r1, r2, r3) := by first | (rw [hy259]; with_reducible exact H) | (have H2_ := (Option.bind_some _ _).symm.trans H; rw [hy259]; with_reducible exact H2_) | (have H2_ := (Option.bind_some _ _).symm.trans H; with_reducible exact H2_) | with_reducible exact H | (rw [hy259]; exact H) | exact H
         have Ny259 := zA hy259
         clear hy259
         have H' := zA H
         clear H
         have p257 : 0 ≤ (x20_1 : Int) := of_decide_eq_true (by first | (with_reducible assumption) | assumption)
         have q257 : x20_1 < (x18_1.length : Int) := of_decide_eq_true (by first | (with_reducible assumption) | assumption)
         obtain ⟨ad257, e257, hx257_0⟩ := Kd.at_int (zK HO_18.out).2.2 x20_1 p257 q257
         cases e257
         replace p257 := eq_true p257
         replace q257 := eq_true q257
         have hnb35 := NB251_249.out
         have hnc35 := NB249_251.out
         have hnb36 := NB251_250.out
         have hnc36 := NB250_251.out
         have hnb37 := NB251_252.out
         have hnc37 := NB252_251.out
         have hnb38 := NB251_253.out
         have hnc38 := NB253_251.out
         have hcz39_0 : wr.cell? ⟨gb251, 0, none⟩ = some (.slice Ao12 x252000_1.length co12) := (blk_cell BK251.out 0).trans rfl
         have hfz39_0 := blk_frozen BK251.out 0
         have p258 : 0 ≤ ((rd x18_1 x20_1) : Int) := of_decide_eq_true (by first | (with_reducible assumption) | assumption)
         have q258 : (rd x18_1 x20_1) < (x252000_1.length : Int) := of_decide_eq_true (by first | (with_reducible assumption) | assumption)
         obtain ⟨ad258, e258, hx258_0⟩ := Kd.at_int (zK HO_252000.out).2.2 (rd x18_1 x20_1) p258 q258
         cases e258
         replace p258 := eq_true p258
         replace q258 := eq_true q258
         have p34 : 0 ≤ ((rd x18_1 x20_1) : Int) := of_decide_eq_true (by first | (with_reducible assumption) | assumption)
         have q34 : ((rd x18_1 x20_1) : Int) < ((x252000_1.length : Int) : Int) := of_decide_eq_true (by first | (with_reducible assumption) | assumption)
         obtain ⟨go34, co34, eo34, gb34, gl34, cl34, HG34⟩ := Kd.R_form HO_252000.out (by omega)
         (first | cases eo34 | (injection eo34 with ea_ en_ ec_; (first | subst ea_ | (injection ea_ with ea_; subst ea_)); subst ec_; clear en_))
         have GB34 := zA gb34
         have GG34 := zA HG34
         clear gb34 gl34 HG34
         have HMgo34 := zA (show ((P5_0_ go34 ∨ P6_0_ go34) ∨ w.heap.size ≤ go34) from (HO_252000.out.1 _ rfl).1)
         (first | simp only [add_plain] at hx258_0 | skip)
         obtain ⟨hx34_0, hf34_0⟩ := Kd.R_celln 0 HO_252000.out ((rd x18_1 x20_1) : Int) p34 q34
         replace p34 := eq_true p34
         replace q34 := eq_true q34
         have HP40 := Kd.R_putg HO_252000.out ((rd x18_1 x20_1) : Int) a2
         go_wp2_with (first | ((with_reducible refine gate_store (t := 3) (p := 33) rfl ?_); refine store_event (t := 3) (p := 33) (v := ?vo_w41) (w1 := (wr.setCell ⟨go34, ((rd x18_1 x20_1) : Int).toNat, none⟩ (.int .i64 a2))) ?hg ?ho ?hn ?hr ?_; (case ho => rfl); (case hg => rfl); (case hn => rfl); (case hr => first | (go_simp; done) | (go_simp; rfl)); intro w41 hw; have hg : wr.grownBy w41 (some go34) := (by rw [hw]; exact HP40.2); have hp_ : Kd.R (Kd.int .i64) 3 w41 w0.heap.size (fun k_ => ((P5_0_ k_ ∨ P6_0_ k_) ∨ w.heap.size ≤ k_) ∧ some k_ ≠ (.slice (some ad257) x18_1.length co27 : Value).ownBlock) (.slice (some ⟨go34, 0, none⟩) x252000_1.length co12) y259 := (by rw [hw, Ny259.out]; exact HP40.1); clear HP40; have n0_ := zA (Kd.R_after (v := (.slice (some ⟨go34, 0, none⟩) x252000_1.length co12)) (v1 := (.slice (some ⟨go34, 0, none⟩) x252000_1.length co12)) (ok := (fun k_ => ((P5_0_ k_ ∨ P6_0_ k_) ∨ w.heap.size ≤ k_))) (bC_ HO_18) hg (.inl rfl)); have n1_ := zA (hp_); have n2_ := zA (Kd.R_over' (v := (.slice (some ⟨go34, 0, none⟩) x252000_1.length co12)) (bC_ HO_253000) (Kd.R_typed HO_252000.out) (by decide) hg); have n3_ := zA (blk_grown (g := gb249) (o := .cells #[.int .i64 a3_0, .int .i64 a3_1, .slice A3_2 l3_2.length c3_2] 26 (0, 0)) (bA_ BK249) hg (Kd.R_ne HO_252000.out BK249.out (by decide))); have n4_ := zA (blk_grown (g := gb250) (o := .cells #[.int .i64 a4] 3 (0, 0)) (bA_ BK250) hg (hnR)); have n5_ := zA (blk_grown (g := gb251) (o := .cells #[.slice (some ⟨go34, 0, none⟩) x252000_1.length co12] 22 (0, 0)) (bA_ BK251) hg (Kd.R_ne HO_252000.out BK251.out (by decide))); have n6_ := zA (blk_grown (g := gb252) (o := .cells #[.slice Ao14 l6_0.length co14] 47 (0, 0)) (bA_ BK252) hg (Kd.R_ne HO_252000.out BK252.out (by decide))); have n7_ := zA (blk_grown (g := gb253) (o := .cells #[.int .i64 a7] 3 (0, 0)) (bA_ BK253) hg (hnY)); have n8_ := zA ((by rw [hw]; exact below_set (HB.out) GB34.out : Below w0.heap.size w0 w41)); have n9_ := zA (Kept.of_grown (S := (fun k_ => P5_0_ k_ ∨ P6_0_ k_)) hg (by repeat (first | (with_reducible first | exact HK.out | apply Kept.alloc | apply Kept.drewN | apply Kept.drew | refine Kept.setCell ?_ (.inr GW249.out) _ | refine Kept.setCell ?_ (.inr GW250.out) _ | refine Kept.setCell ?_ (.inr GW251.out) _ | refine Kept.setCell (p := ⟨gb252, 0, none⟩) ?_ (.inl (.inr hgS252)) _ | refine Kept.setCell (p := ⟨gb253, 0, none⟩) ?_ (.inl (.inr hgS253)) _) | exact HK.out)) (fun k_ e_ => (HO_252000.out.1 k_ e_).1)); clear HO_18; clear HO_252000; clear HO_253000; clear BK249; clear BK250; clear BK251; clear BK252; clear BK253; clear HB; clear HK; have HO_18 := n0_; have HO_252000 := n1_; have HO_253000 := n2_; have BK249 := n3_; have BK250 := n4_; have BK251 := n5_; have BK252 := n6_; have BK253 := n7_; have HB := n8_; have HK := n9_; clear n0_ n1_ n2_ n3_ n4_ n5_ n6_ n7_ n8_ n9_; clear hg hw hp_))
         (try simp only [← hl18_1, ← hl252000_1])
         go_roundg k1
         case measure => have := HK1.out; omega
         case rel => exact ⟨(true), (x18_1), (wrap64 (x20_1 + 1)), (y259), (by first | rfl | (simp; done) | (simp [*]; done)), (by first | rfl | (simp; done) | (simp [*]; done)), H', ⟨by have := HK1.out; omega⟩, ⟨by (try simp only [hl18_1]); (try simp only [hl252000_1]); (with_reducible repeat (first | apply zF | apply zE | apply zG)); exact HO_18.out⟩, ⟨by (try simp only [hl18_1]); (try simp only [hl252000_1]); (with_reducible repeat (first | apply zF | apply zE | apply zG)); exact HO_252000.out⟩, ⟨by (try simp only [hl18_1]); (try simp only [hl252000_1]); (with_reducible repeat (first | apply zF | apply zE | apply zG)); exact HO_253000.out⟩, ⟨by (try simp only [hl18_1]); (try simp only [hl252000_1]); (with_reducible repeat (first | refine zM ?_ _ | refine zN ?_ | refine zO ?_ _)); exact BK249.out⟩, ⟨by (try simp only [hl18_1]); (try simp only [hl252000_1]); (with_reducible repeat (first | refine zM ?_ _ | refine zN ?_ | refine zO ?_ _)); exact BK250.out⟩, ⟨by (try simp only [hl18_1]); (try simp only [hl252000_1]); (with_reducible repeat (first | refine zM ?_ _ | refine zN ?_ | refine zO ?_ _)); exact BK251.out⟩, ⟨by (try simp only [hl18_1]); (try simp only [hl252000_1]); (with_reducible repeat (first | refine zM ?_ _ | refine zN ?_ | refine zO ?_ _)); exact BK252.out⟩, ⟨by (try simp only [hl18_1]); (try simp only [hl252000_1]); (with_reducible repeat (first | refine zM ?_ _ | refine zN ?_ | refine zO ?_ _)); exact BK253.out⟩, ⟨by repeat (first | (with_reducible first | exact HK.out | apply Kept.alloc | apply Kept.drewN | apply Kept.drew | refine Kept.setCell ?_ (.inr GW249.out) _ | refine Kept.setCell ?_ (.inr GW250.out) _ | refine Kept.setCell ?_ (.inr GW251.out) _ | refine Kept.setCell (p := ⟨gb252, 0, none⟩) ?_ (.inl (.inr hgS252)) _ | refine Kept.setCell (p := ⟨gb253, 0, none⟩) ?_ (.inl (.inr hgS253)) _) | exact HK.out)⟩, ⟨bB_ HB⟩⟩
        ·rw [if_neg c33] at H
         have c33b0 : decide (a2 < (rd x252000_1 (rd x18_1 x20_1))) = false := decide_eq_false c33
         clear c33
         have H' := zA H
         clear H
         have p257 : 0 ≤ (x20_1 : Int) := of_decide_eq_true (by first | (with_reducible assumption) | assumption)
         have q257 : x20_1 < (x18_1.length : Int) := of_decide_eq_true (by first | (with_reducible assumption) | assumption)
         obtain ⟨ad257, e257, hx257_0⟩ := Kd.at_int (zK HO_18.out).2.2 x20_1 p257 q257
         cases e257
         replace p257 := eq_true p257
         replace q257 := eq_true q257
         have hnb42 := NB251_249.out
         have hnc42 := NB249_251.out
         have hnb43 := NB251_250.out
         have hnc43 := NB250_251.out
         have hnb44 := NB251_252.out
         have hnc44 := NB252_251.out
         have hnb45 := NB251_253.out
         have hnc45 := NB253_251.out
         have hcz46_0 : wr.cell? ⟨gb251, 0, none⟩ = some (.slice Ao12 x252000_1.length co12) := (blk_cell BK251.out 0).trans rfl
         have hfz46_0 := blk_frozen BK251.out 0
         have p258 : 0 ≤ ((rd x18_1 x20_1) : Int) := of_decide_eq_true (by first | (with_reducible assumption) | assumption)
         have q258 : (rd x18_1 x20_1) < (x252000_1.length : Int) := of_decide_eq_true (by first | (with_reducible assumption) | assumption)
         obtain ⟨ad258, e258, hx258_0⟩ := Kd.at_int (zK HO_252000.out).2.2 (rd x18_1 x20_1) p258 q258
         cases e258
         replace p258 := eq_true p258
         replace q258 := eq_true q258
         go_wp2
         (try simp only [← hl18_1, ← hl252000_1])
         go_roundg k1
         case measure => have := HK1.out; omega
         case rel => exact ⟨(x11_1), (x18_1), (wrap64 (x20_1 + 1)), (x252000_1), (by first | rfl | (simp; done) | (simp [*]; done)), (by first | rfl | (simp; done) | (simp [*]; done)), H', ⟨by have := HK1.out; omega⟩, ⟨by (try simp only [hl18_1]); (try simp only [hl252000_1]); (with_reducible repeat (first | apply zF | apply zE | apply zG)); exact HO_18.out⟩, ⟨by (try simp only [hl18_1]); (try simp only [hl252000_1]); (with_reducible repeat (first | apply zF | apply zE | apply zG)); exact HO_252000.out⟩, ⟨by (try simp only [hl18_1]); (try simp only [hl252000_1]); (with_reducible repeat (first | apply zF | apply zE | apply zG)); exact HO_253000.out⟩, ⟨by (try simp only [hl18_1]); (try simp only [hl252000_1]); (with_reducible repeat (first | refine zM ?_ _ | refine zN ?_ | refine zO ?_ _)); exact BK249.out⟩, ⟨by (try simp only [hl18_1]); (try simp only [hl252000_1]); (with_reducible repeat (first | refine zM ?_ _ | refine zN ?_ | refine zO ?_ _)); exact BK250.out⟩, ⟨by (try simp only [hl18_1]); (try simp only [hl252000_1]); (with_reducible repeat (first | refine zM ?_ _ | refine zN ?_ | refine zO ?_ _)); exact BK251.out⟩, ⟨by (try simp only [hl18_1]); (try simp only [hl252000_1]); (with_reducible repeat (first | refine zM ?_ _ | refine zN ?_ | refine zO ?_ _)); exact BK252.out⟩, ⟨by (try simp only [hl18_1]); (try simp only [hl252000_1]); (with_reducible repeat (first | refine zM ?_ _ | refine zN ?_ | refine zO ?_ _)); exact BK253.out⟩, ⟨by repeat (first | (with_reducible first | exact HK.out | apply Kept.alloc | apply Kept.drewN | apply Kept.drew | refine Kept.setCell ?_ (.inr GW249.out) _ | refine Kept.setCell ?_ (.inr GW250.out) _ | refine Kept.setCell ?_ (.inr GW251.out) _ | refine Kept.setCell (p := ⟨gb252, 0, none⟩) ?_ (.inl (.inr hgS252)) _ | refine Kept.setCell (p := ⟨gb253, 0, none⟩) ?_ (.inl (.inr hgS253)) _) | exact HK.out)⟩, ⟨bB_ HB⟩⟩
       ·rw [if_neg c32] at H
        exact absurd H (by simp)
      ·rw [if_neg c31] at H
       exact absurd H (by simp)
     ·rw [if_neg c30] at H
      exact absurd H (by simp)
    ·rw [if_neg c29] at H
     exact absurd H (by simp)
   ·rw [if_neg c28] at H
    have c28b0 : decide (x20_1 < (t254.length : Int)) = false := decide_eq_false c28
    (try (have c28b0l := c28b0; rw [hl18_1] at c28b0l))
    (try (have c28b0l := c28b0; rw [hl252000_1] at c28b0l))
    clear c28
    by_cases c47 : x11_1 = true
    ·subst c47
     have H1 : ((some (([(⟨true, a0, a7, 24⟩ : S61), (⟨true, a0, a1, 24⟩ : S61), (⟨false, a0, a1, a2⟩ : S61), (⟨true, a0, a1, 24⟩ : S61)] : List (S61)) : List (S61))).bind fun y260 => (if l6_0.length + y260.length < 4398046511104 then (some (a1, (l6_0 ++ y260), x252000_1)) else (none))) = some (r1, r2, r3) := by rw [if_pos rfl] at H; exact H
     clear H
     have H := H1
     clear H1
     obtain ⟨y260, hy260⟩ : ∃ y_ : List (S61), y_ = (([(⟨true, a0, a7, 24⟩ : S61), (⟨true, a0, a1, 24⟩ : S61), (⟨false, a0, a1, a2⟩ : S61), (⟨true, a0, a1, 24⟩ : S61)] : List (S61))) := ⟨_, rfl⟩
     replace H : (if l6_0.length + y260.length < 4398046511104 then (some (a1, (l6_0 ++ y260), x252000_1)) else (none)) = some (r1, r2, r3) := by first | (rw [hy260]; with_reducible exact H) | (have H2_ := (Option.bind_some _ _).symm.trans H; rw [hy260]; with_reducible exact H2_) | (have H2_ := (Option.bind_some _ _).symm.trans H; with_reducible exact H2_) | with_reducible exact H | (rw [hy260]; exact H) | exact H
     have Ny260 := zA hy260
     clear hy260
     by_cases c48 : l6_0.length + y260.length < 4398046511104
     ·rw [if_pos c48] at H
      have LMc48 := zA c48
      clear c48
      obtain ⟨y263, hy263⟩ : ∃ y_ : List (S61), y_ = (l6_0 ++ y260) := ⟨_, rfl⟩
      replace H : (some (a1, y263, x252000_1)) = some (r1, r2, r3) := by first | (rw [hy263]; with_reducible exact H) | (have H2_ := (Option.bind_some _ _).symm.trans H; rw [hy263]; with_reducible exact H2_) | (have H2_ := (Option.bind_some _ _).symm.trans H; with_reducible exact H2_) | with_reducible exact H | (rw [hy263]; exact H) | exact H
      have Ny263 := zA hy263
      clear hy263
      simp only [Option.some.injEq, Prod.mk.injEq] at H
      obtain ⟨rfl, rfl, rfl⟩ := H
      have hnb49 := NB252_249.out
      have hnc49 := NB249_252.out
      have hnb50 := NB252_250.out
      have hnc50 := NB250_252.out
      have hnb51 := NB252_251.out
      have hnc51 := NB251_252.out
      have hnb52 := NB252_253.out
      have hnc52 := NB253_252.out
      have hcz53_0 : wr.cell? ⟨gb252, 0, none⟩ = some (.slice Ao14 l6_0.length co14) := (blk_cell BK252.out 0).trans rfl
      have hfz53_0 := blk_frozen BK252.out 0
      have hnb54 := NB253_249.out
      have hnc54 := NB249_253.out
      have hnb55 := NB253_250.out
      have hnc55 := NB250_253.out
      have hnb56 := NB253_251.out
      have hnc56 := NB251_253.out
      have hcz57_0 : wr.cell? ⟨gb253, 0, none⟩ = some (.int .i64 a7) := (blk_cell BK253.out 0).trans rfl
      have hfz57_0 := blk_frozen BK253.out 0
      go_wp2_with (first | ((with_reducible refine gate_dst (N := 50) rfl ?_); refine Kd.R_lit k61 _ 61 ?hg (N := 50) ?hd (xs := ([(⟨true, a0, a7, 24⟩ : S61), (⟨true, a0, a1, 24⟩ : S61), (⟨false, a0, a1, a2⟩ : S61), (⟨true, a0, a1, 24⟩ : S61)] : List (S61))) (inner := [.bool true, .int .i64 a0, .int .i64 a7, .int .i64 24, .bool true, .int .i64 a0, .int .i64 a1, .int .i64 24, .bool false, .int .i64 a0, .int .i64 a1, .int .i64 a2, .bool true, .int .i64 a0, .int .i64 a1, .int .i64 24]) (ok := fun _ => True) (okp := fun _ => True) ?hr ?hp (fun _ hk => hk) trivial (Below.refl _ _) (Nat.le_refl _) (by simp) ?_; (case hd => rfl); (case hg => rfl); (case hr => first | (go_simp; done) | (go_simp; rfl)); (case hp => exact (Reps.c4 (show Kd.M k61 _ _ _ (⟨true, a0, a7, 24⟩ : S61) [.bool true, .int .i64 a0, .int .i64 a7, .int .i64 24] from (k61_mkM _ _ _ (⟨true, a0, a7, 24⟩ : S61) )) (Reps.c4 (show Kd.M k61 _ _ _ (⟨true, a0, a1, 24⟩ : S61) [.bool true, .int .i64 a0, .int .i64 a1, .int .i64 24] from (k61_mkM _ _ _ (⟨true, a0, a1, 24⟩ : S61) )) (Reps.c4 (show Kd.M k61 _ _ _ (⟨false, a0, a1, a2⟩ : S61) [.bool false, .int .i64 a0, .int .i64 a1, .int .i64 a2] from (k61_mkM _ _ _ (⟨false, a0, a1, a2⟩ : S61) )) (Reps.c4 (show Kd.M k61 _ _ _ (⟨true, a0, a1, 24⟩ : S61) [.bool true, .int .i64 a0, .int .i64 a1, .int .i64 24] from (k61_mkM _ _ _ (⟨true, a0, a1, 24⟩ : S61) )) (Reps.none _ _)))))); intro v261 w58 ho59 hb hg_ hnew_; clear hg_ hnew_; (first | rw [← Ny260.out] at ho59 | (simp only [Int.reduceToNat] at ho59; rw [← Ny260.out] at ho59)); have n0_ := zA (zL (bC_ HO_18) hb); have n1_ := zA (zL (bC_ HO_252000) hb); have n2_ := zA (Kd.R_elder' (bC_ HO_253000) (Kd.R_base ho59) hb); have n3_ := zA (Kd.R_lower (Kd.R_new' (Kd.R_newM (M := fun k_ => ((P5_0_ k_ ∨ P6_0_ k_) ∨ w.heap.size ≤ k_)) ho59 (by first | exact HK.out.1 | exact (show Kept w _ (fun k_ => P5_0_ k_ ∨ P6_0_ k_) from by repeat (first | (with_reducible first | exact HK.out | apply Kept.alloc | apply Kept.drewN | apply Kept.drew | refine Kept.setCell ?_ (.inr GW249.out) _ | refine Kept.setCell ?_ (.inr GW250.out) _ | refine Kept.setCell ?_ (.inr GW251.out) _ | refine Kept.setCell (p := ⟨gb252, 0, none⟩) ?_ (.inl (.inr hgS252)) _ | refine Kept.setCell (p := ⟨gb253, 0, none⟩) ?_ (.inl (.inr hgS253)) _) | exact HK.out)).1) (fun k_ h_ => .inr h_)) (Kd.R_lt (bC_ HO_253000))) (zT (bB_ HB))); have n4_ := zA (zU (g := gb249) (o := .cells #[.int .i64 a3_0, .int .i64 a3_1, .slice A3_2 l3_2.length c3_2] 26 (0, 0)) (bA_ BK249) hb); have n5_ := zA (zU (g := gb250) (o := .cells #[.int .i64 a4] 3 (0, 0)) (bA_ BK250) hb); have n6_ := zA (zU (g := gb251) (o := .cells #[.slice Ao12 x252000_1.length co12] 22 (0, 0)) (bA_ BK251) hb); have n7_ := zA (zU (g := gb252) (o := .cells #[.slice Ao14 l6_0.length co14] 47 (0, 0)) (bA_ BK252) hb); have n8_ := zA (zU (g := gb253) (o := .cells #[.int .i64 a7] 3 (0, 0)) (bA_ BK253) hb); have n9_ := zA (Kept.below (S := (fun k_ => P5_0_ k_ ∨ P6_0_ k_)) (by repeat (first | (with_reducible first | exact HK.out | apply Kept.alloc | apply Kept.drewN | apply Kept.drew | refine Kept.setCell ?_ (.inr GW249.out) _ | refine Kept.setCell ?_ (.inr GW250.out) _ | refine Kept.setCell ?_ (.inr GW251.out) _ | refine Kept.setCell (p := ⟨gb252, 0, none⟩) ?_ (.inl (.inr hgS252)) _ | refine Kept.setCell (p := ⟨gb253, 0, none⟩) ?_ (.inl (.inr hgS253)) _) | exact HK.out)) hb); have n10_ := zA (below_step (bB_ HB) hb); clear HO_18; clear HO_252000; clear HO_253000; clear BK249; clear BK250; clear BK251; clear BK252; clear BK253; clear HK; clear HB; have HO_18 := n0_; have HO_252000 := n1_; have HO_253000 := n2_; have HO262 := n3_; have BK249 := n4_; have BK250 := n5_; have BK251 := n6_; have BK252 := n7_; have BK253 := n8_; have HK := n9_; have HB := n10_; clear n0_ n1_ n2_ n3_ n4_ n5_ n6_ n7_ n8_ n9_ n10_; clear hb ho59; obtain ⟨Ao61, co61, eo61⟩ := Kd.R_slice HO262.out; subst eo61) | ((with_reducible refine gate_builtin (b := .append) (xs := #[.tmp 36, .tmp 50]) rfl ?_); at_builtin; refine Kd.R_append_rows k61 (w0 := w0) w0.heap.size rfl (.tmp 36) (.tmp 50) 47 61 (.agg #[(.bool false), (.int .i64 0), (.int .i64 0), (.int .i64 0)]) 32 rfl Try.underlying47 info61 rfl (by decide) (by omega) (.slice Ao14 l6_0.length co14) l6_0 y260 _ _ _ (fun k_ => ((P5_0_ k_ ∨ P6_0_ k_) ∨ w.heap.size ≤ k_) ∧ some k_ ≠ (.slice Ao61 y260.length co61 : Value).ownBlock) (fun _ => False) rfl rfl ?aO ?aR (fun _ _ h => h) (fun _ h => h.elim) ?aF ?aB ?aS ?aL ?_; (case aR => repeat (first | exact (zK HO262.out).2.2 | (with_reducible refine zI ?_ _) | (with_reducible refine zH ?_ _) | (with_reducible refine zJ ?_))); (case aB => exact (bB_ HB)); (case aF => exact (fun k_ hk => ⟨(.inr (Nat.le_trans (by first | exact HK.out.1 | exact (show Kept w _ (fun k_ => P5_0_ k_ ∨ P6_0_ k_) from by repeat (first | (with_reducible first | exact HK.out | apply Kept.alloc | apply Kept.drewN | apply Kept.drew | refine Kept.setCell ?_ (.inr GW249.out) _ | refine Kept.setCell ?_ (.inr GW250.out) _ | refine Kept.setCell ?_ (.inr GW251.out) _ | refine Kept.setCell (p := ⟨gb252, 0, none⟩) ?_ (.inl (.inr hgS252)) _ | refine Kept.setCell (p := ⟨gb253, 0, none⟩) ?_ (.inl (.inr hgS253)) _) | exact HK.out)).1) hk)), Kd.fresh' (Kd.R_lt (bC_ HO262)) k_ hk⟩)); (case aO => exact (bC_ HO_253000)); (case aS => exact (zT (bB_ HB))); (case aL => have := LMc48.out; omega); intro v264 w60 ho hb hg hat; rw [← Ny263.out] at ho; have n0_ := zA (Kd.R_over' (bC_ HO_18) (Kd.R_typed (bC_ HO_253000)) (by decide) hg); have n1_ := zA (Kd.R_over' (bC_ HO_252000) (Kd.R_typed (bC_ HO_253000)) (by decide) hg); have n2_ := zA (blk_grown (g := gb249) (o := .cells #[.int .i64 a3_0, .int .i64 a3_1, .slice A3_2 l3_2.length c3_2] 26 (0, 0)) (bA_ BK249) hg (Kd.R_ne HO_253000.out BK249.out (by decide))); have n3_ := zA (blk_grown (g := gb250) (o := .cells #[.int .i64 a4] 3 (0, 0)) (bA_ BK250) hg (Kd.R_ne HO_253000.out BK250.out (by decide))); have n4_ := zA (blk_grown (g := gb251) (o := .cells #[.slice Ao12 x252000_1.length co12] 22 (0, 0)) (bA_ BK251) hg (Kd.R_ne HO_253000.out BK251.out (by decide))); have n5_ := zA (blk_grown (g := gb252) (o := .cells #[.slice Ao14 l6_0.length co14] 47 (0, 0)) (bA_ BK252) hg (Kd.R_ne HO_253000.out BK252.out (by decide))); have n6_ := zA (blk_grown (g := gb253) (o := .cells #[.int .i64 a7] 3 (0, 0)) (bA_ BK253) hg (Kd.R_ne HO_253000.out BK253.out (by decide))); have n7_ := zA (Kd.R_after (ok := (fun k_ => ((P5_0_ k_ ∨ P6_0_ k_) ∨ w.heap.size ≤ k_))) (by (with_reducible repeat (first | apply zF | apply zE | apply zG)); exact Kd.R_mono HO262.out (fun _ hk => ⟨hk.1.1, hk.2⟩)) hg hat); have n8_ := zA (hb); have n9_ := zA (Kept.of_grown (S := (fun k_ => P5_0_ k_ ∨ P6_0_ k_)) hg (by repeat (first | (with_reducible first | exact HK.out | apply Kept.alloc | apply Kept.drewN | apply Kept.drew | refine Kept.setCell ?_ (.inr GW249.out) _ | refine Kept.setCell ?_ (.inr GW250.out) _ | refine Kept.setCell ?_ (.inr GW251.out) _ | refine Kept.setCell (p := ⟨gb252, 0, none⟩) ?_ (.inl (.inr hgS252)) _ | refine Kept.setCell (p := ⟨gb253, 0, none⟩) ?_ (.inl (.inr hgS253)) _) | exact HK.out)) (fun k_ e_ => (HO_253000.out.1 k_ e_).1)); have n10_ := zA (ho); clear HO_18; clear HO_252000; clear BK249; clear BK250; clear BK251; clear BK252; clear BK253; clear HO262; clear HB; clear HK; clear HO_253000; have HO_18 := n0_; have HO_252000 := n1_; have BK249 := n2_; have BK250 := n3_; have BK251 := n4_; have BK252 := n5_; have BK253 := n6_; have HO262 := n7_; have HB := n8_; have HK := n9_; have HO265 := n10_; clear n0_ n1_ n2_ n3_ n4_ n5_ n6_ n7_ n8_ n9_ n10_; clear ho hb hg hat; obtain ⟨Ao62, co62, eo62⟩ := Kd.R_slice HO265.out; subst eo62; have hcz63_0 : w60.cell? ⟨gb252, 0, none⟩ = some (.slice Ao14 l6_0.length co14) := (blk_cell BK252.out 0).trans rfl; have hfz63_0 := blk_frozen BK252.out 0; have hcz64_0 : w60.cell? ⟨gb253, 0, none⟩ = some (.int .i64 a7) := (blk_cell BK253.out 0).trans rfl; have hfz64_0 := blk_frozen BK253.out 0))
      first | go_end0 | ((try simp only [Exit.inBlock, Exit.then]); refine bodyPost_ret (results_none rfl _ _ _) rfl ?_) | (refine bodyPost_end (results_none rfl _ _ _) rfl ?_)
      exact ⟨_, by first | rfl | (simp [errW_none, errW_some] <;> rfl) | (simp [*, errW_none, errW_some] <;> rfl), (by (with_reducible repeat (first | refine zM ?_ _ | refine zN ?_ | refine zO ?_ _)); refine blk_far ?_ NB252_253.out _; (with_reducible repeat (first | refine zM ?_ _ | refine zN ?_ | refine zO ?_ _)); exact blk_put BK252.out 0 _ rfl), (by (with_reducible repeat (first | refine zM ?_ _ | refine zN ?_ | refine zO ?_ _)); refine blk_put (blk_far BK253.out NB253_252.out _) 0 _ rfl), by (with_reducible repeat (first | apply zF | apply zE | apply zG)); exact Kd.R_mono (Kd.R_far (p := ⟨gb253, 0, none⟩) (Kd.R_far (p := ⟨gb252, 0, none⟩) (Kd.R_types (Kd.R_types HO265.out BK252.out (by decide)) BK253.out (by decide)) (fun _ hk => hk.1.2) (.slice Ao62 y263.length co62)) (fun _ hk => hk.2) (.int .i64 a1)) (fun _ hk => hk.1.1.1), (by first | exact (by (with_reducible repeat (first | apply zF | apply zE | apply zG)); exact Kd.R_mono (Kd.R_far (p := ⟨gb253, 0, none⟩) (Kd.R_far (p := ⟨gb252, 0, none⟩) (Kd.R_far1 (Kd.R_types HO_252000.out BK252.out (by decide)) rfl (by first | exact hnY | (cases Ao12 <;> exact hnY) | (simp only [hl252000_1]; exact hnY))) (fun _ hk => hk.1.2) (.slice Ao62 y263.length co62)) (fun _ hk => hk.2) (.int .i64 a1)) (fun _ hk => hk.1.1.1)) | (simp only [hl18_1, hl252000_1]; exact (by (with_reducible repeat (first | apply zF | apply zE | apply zG)); exact Kd.R_mono (Kd.R_far (p := ⟨gb253, 0, none⟩) (Kd.R_far (p := ⟨gb252, 0, none⟩) (Kd.R_far1 (Kd.R_types HO_252000.out BK252.out (by decide)) rfl (by first | exact hnY | (cases Ao12 <;> exact hnY) | (simp only [hl252000_1]; exact hnY))) (fun _ hk => hk.1.2) (.slice Ao62 y263.length co62)) (fun _ hk => hk.2) (.int .i64 a1)) (fun _ hk => hk.1.1.1)))), bB_ HB, by repeat (first | (with_reducible first | exact HK.out | apply Kept.alloc | apply Kept.drewN | apply Kept.drew | refine Kept.setCell ?_ (.inr GW249.out) _ | refine Kept.setCell ?_ (.inr GW250.out) _ | refine Kept.setCell ?_ (.inr GW251.out) _ | refine Kept.setCell (p := ⟨gb252, 0, none⟩) ?_ (.inl (.inr hgS252)) _ | refine Kept.setCell (p := ⟨gb253, 0, none⟩) ?_ (.inl (.inr hgS253)) _) | exact HK.out)⟩
     ·rw [if_neg c48] at H
      exact absurd H (by simp)
    ·replace c47 := Bool.eq_false_iff.mpr c47
     subst c47
     have H1 : (some (a7, l6_0, x252000_1)) = some (r1, r2, r3) := by rw [if_neg (show ¬ (false = true) by decide)] at H; exact H
     clear H
     have H := H1
     clear H1
     simp only [Option.some.injEq, Prod.mk.injEq] at H
     obtain ⟨rfl, rfl, rfl⟩ := H
     have hnb65 := NB253_249.out
     have hnc65 := NB249_253.out
     have hnb66 := NB253_250.out
     have hnc66 := NB250_253.out
     have hnb67 := NB253_251.out
     have hnc67 := NB251_253.out
     have hnb68 := NB253_252.out
     have hnc68 := NB252_253.out
     have hcz69_0 : wr.cell? ⟨gb253, 0, none⟩ = some (.int .i64 a7) := (blk_cell BK253.out 0).trans rfl
     have hfz69_0 := blk_frozen BK253.out 0
     have hnb70 := NB252_249.out
     have hnc70 := NB249_252.out
     have hnb71 := NB252_250.out
     have hnc71 := NB250_252.out
     have hnb72 := NB252_251.out
     have hnc72 := NB251_252.out
     have hcz73_0 : wr.cell? ⟨gb252, 0, none⟩ = some (.slice Ao14 l6_0.length co14) := (blk_cell BK252.out 0).trans rfl
     have hfz73_0 := blk_frozen BK252.out 0
     go_wp2
     first | go_end0 | ((try simp only [Exit.inBlock, Exit.then]); refine bodyPost_ret (results_none rfl _ _ _) rfl ?_) | (refine bodyPost_end (results_none rfl _ _ _) rfl ?_)
     exact ⟨_, by first | rfl | (simp [errW_none, errW_some] <;> rfl) | (simp [*, errW_none, errW_some] <;> rfl), (bA_ BK252), (bA_ BK253), bC_ HO_253000, (by first | exact (by (with_reducible repeat (first | apply zF | apply zE | apply zG)); exact Kd.R_mono HO_252000.out (fun _ hk => hk.1)) | (simp only [hl18_1, hl252000_1]; exact (by (with_reducible repeat (first | apply zF | apply zE | apply zG)); exact Kd.R_mono HO_252000.out (fun _ hk => hk.1)))), bB_ HB, by repeat (first | (with_reducible first | exact HK.out | apply Kept.alloc | apply Kept.drewN | apply Kept.drew | refine Kept.setCell ?_ (.inr GW249.out) _ | refine Kept.setCell ?_ (.inr GW250.out) _ | refine Kept.setCell ?_ (.inr GW251.out) _ | refine Kept.setCell (p := ⟨gb252, 0, none⟩) ?_ (.inl (.inr hgS252)) _ | refine Kept.setCell (p := ⟨gb253, 0, none⟩) ?_ (.inl (.inr hgS253)) _) | exact HK.out)⟩

end Go.Proofs.Ytgmbbcnfcddamaa.PFnExactZigzag
