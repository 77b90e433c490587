/- Written for this claim by a program of this session: the functions that the law reaches, each with its contract. -/
import Derived.Test.YtnbkdfnlggmopaaPFnExactSketchMovex0
import Derived.Test.YtnbkdfnlggmopaaPFnExactSketchMovex7
import Derived.Test.YtnbkdfnlggmopaaPFnExactSketchMovex8
import Derived.Test.YtnbkdfnlggmopaaPFnExactSketchMovex10
namespace Go.Proofs.Ytnbkdfnlggmopaa.PFnExactSketchMove
open Go.RowKit Go.Proofs.YtnbkdfnlggmopaaW.PrintWords Go.Proofs.YtnbkdfnlggmopaaW.PrintLast Go.Proofs.YtnbkdfnlggmopaaW.PrintMore
open Go.Proofs.YtnbkdfnlggmopaaW.PrintWords.Aside0 renaming mk → zA
open List renaming setIfInBounds_toArray → zB, set_cons_zero → zC, set_cons_succ → zD
open Go.Proofs.YtnbkdfnlggmopaaW.PrintWords.Kd renaming R_drewN → zE, R_alloc → zF, R_drew → zG, C_drewN → zH, C_alloc → zI, C_drew → zJ, R_reads' → zK, R_below → zL
open Go.Proofs.YtnbkdfnlggmopaaW.PrintWords renaming below_size → zT, blk_below → zU
attribute [local go_sem] i64_w max2_int min2_int max_two min_two max_three min_three max_four min_four
set_option linter.unusedVariables false
set_option linter.unusedSimpArgs false

def spec_SketchSolve.l0 : Nat → List Int → Int → Int → List (S35) → Option ((List (S48)) × Int × List Int)
 | 0, _, _, _, _ => none
 | k + 1, x5, x8, x314000, x314001 => if x8 ≥ 0 then ((some (([] : List Int) : List Int)).bind fun y331 => (if 0 ≤ x8 then (if x8 ≤ (x5.length : Int) then ((some (x5.take (x8 : Int).toNat : List Int)).bind fun y334 => (if y331.length + y334.length < 17592186044416 then ((some (y331 ++ y334 : List Int)).bind fun y338 => (if 0 ≤ (wrap64 (x8 + 1)) then (if (wrap64 (x8 + 1)) ≤ (x5.length : Int) then ((some (x5.drop ((wrap64 (x8 + 1)) : Int).toNat : List Int)).bind fun y341 => (if y338.length + y341.length < 17592186044416 then ((some (y338 ++ y341 : List Int)).bind fun y345 => ((spec_l04Keeps.f k x314000 x314001 y345).bind fun bt348 => (if bt348.2 = true then (spec_SketchSolve.l0 k x5 (wrap64 (x8 - 1)) x314000 x314001) else (spec_SketchSolve.l0 k y345 (wrap64 (x8 - 1)) x314000 x314001)))) else (none))) else (none)) else (none))) else (none))) else (none)) else (none))) else (some ((([] : List (S48))), 15, x5))
def spec_SketchSolve.f (k : Nat) (a0_0 : Int) (l0_1 : List (S35)) : Option ((List (S48)) × Int × List Int) := (spec_SketchOK.f k a0_0 l0_1).bind fun t314 => (if t314 = true then ((spec_l04All.f k a0_0 l0_1).bind fun t321 => ((spec_l04Keeps.f k a0_0 l0_1 t321).bind fun bt324 => (if bt324.2 = true then (some (bt324.1, 0, (([] : List Int)))) else (spec_SketchSolve.l0 k t321 (wrap64 ((t321.length : Int) - 1)) a0_0 l0_1)))) else (some ((([] : List (S48))), 1, (([] : List Int)))))
theorem spec_SketchSolve.mono_l : ∀ k, (∀ y0 y1 y2 y3, LeO (spec_SketchSolve.l0 k y0 y1 y2 y3) (spec_SketchSolve.l0 (k + 1) y0 y1 y2 y3))
 | 0 => fun _ _ _ _ r h => by simp [spec_SketchSolve.l0] at h
 | k + 1 => by
  have ih0 := spec_SketchSolve.mono_l k
  ·intro y0 y1 y2 y3
   unfold spec_SketchSolve.l0
   repeat' first
   | (with_reducible exact ih0 _ _ _ _)
   | (with_reducible exact spec_SketchOK.mono _ _ _)
   | (with_reducible exact spec_l04All.mono _ _ _)
   | (with_reducible exact spec_l04Keeps.mono _ _ _ _)
   | (with_reducible exact LeO.refl _)
   | (with_reducible exact LeO.none _)
   | (with_reducible refine LeO.ite ?_ ?_)
   | (with_reducible refine LeO.bind ?_ (fun _ => ?_))
   | exact ih0 _ _ _ _
   | exact spec_SketchOK.mono _ _ _
   | exact spec_l04All.mono _ _ _
   | exact spec_l04Keeps.mono _ _ _ _
   | exact LeO.none _
   | refine LeO.ite ?_ ?_
   | refine LeO.bind ?_ (fun _ => ?_)
theorem spec_SketchSolve.mono : ∀ a0 a1 k, LeO (spec_SketchSolve.f k a0 a1) (spec_SketchSolve.f (k + 1) a0 a1) := by
 intro a0 a1 k
 have ih0 := spec_SketchSolve.mono_l k
 unfold spec_SketchSolve.f
 repeat' first
   | (with_reducible exact ih0 _ _ _ _)
   | (with_reducible exact spec_SketchOK.mono _ _ _)
   | (with_reducible exact spec_l04All.mono _ _ _)
   | (with_reducible exact spec_l04Keeps.mono _ _ _ _)
   | (with_reducible exact LeO.refl _)
   | (with_reducible exact LeO.none _)
   | (with_reducible refine LeO.ite ?_ ?_)
   | (with_reducible refine LeO.bind ?_ (fun _ => ?_))
   | exact ih0 _ _ _ _
   | exact spec_SketchOK.mono _ _ _
   | exact spec_l04All.mono _ _ _
   | exact spec_l04Keeps.mono _ _ _ _
   | exact LeO.none _
   | refine LeO.ite ?_ ?_
   | refine LeO.bind ?_ (fun _ => ?_)
def spec_SketchSolve.T10 : Bool × List (List Nat × List Nat) := (true, [([], []), ([], []), ([], []), ([1, 2], [1, 2]), ([0, 3], [0, 3]), ([], []), ([], []), ([6], [6]), ([5, 7], [5, 7]), ([4, 8, 4], [4, 8]), ([9, 9, 0, 1, 2, 3, 4, 5, 6, 7, 8, 9], [9])])
def spec_SketchSolve.B10 : List Nat := [0, 0, 0, 6, 15, 0, 0, 64, 224, 511, 1023]
theorem spec_SketchSolve.tab10 : rtab .any (opsOf Try.f10 10) = spec_SketchSolve.T10 := by kernel_rfl
theorem spec_SketchSolve.bits10 : waitsOk spec_SketchSolve.T10.2 spec_SketchSolve.B10 = true := by kernel_rfl
set_option maxHeartbeats 8000000 in
set_option maxRecDepth 100000 in
theorem spec_SketchSolve.calls (k : Nat) (a0_0 : Int) (A0_1 : Option Addr) (c0_1 : Nat) (l0_1 : List (S35)) (r1 : List (S48)) (r2 : Int) (r3 : List Int) (w : World) (hr0_1 : Kd.C k35 w A0_1 l0_1.length l0_1) (hc0_1 : l0_1.length ≤ c0_1) (h : spec_SketchSolve.f k a0_0 l0_1 = some (r1, r2, r3)) :
  Calls Try.prog 10 #[.agg #[.int .i64 a0_0, .slice A0_1 l0_1.length c0_1]] w fun e w' => ∃ v0_ v2_ : Value, e = .returned (.tuple #[v0_, .int .i64 r2, v2_]) ∧ Kd.R k48 48 w' w.heap.size (fun _ => True) v0_ r1 ∧ Kd.R (Kd.int .i64) 3 w' w.heap.size (fun _ => True) v2_ r3 ∧ Below w.heap.size w w' := by
 have hu25 := Try.underlying25
 have HR0_1 := zA hr0_1
 have HC0_1 := zA hc0_1
 clear hr0_1 hc0_1
 have HB := zA (Below.refl w.heap.size w)
 have H : ((spec_SketchOK.f k a0_0 l0_1).bind fun t314 => (if t314 = true then ((spec_l04All.f k a0_0 l0_1).bind fun t321 => ((spec_l04Keeps.f k a0_0 l0_1 t321).bind fun bt324 => (if bt324.2 = true then (some (bt324.1, 0, (([] : List Int)))) else (spec_SketchSolve.l0 k t321 (wrap64 ((t321.length : Int) - 1)) a0_0 l0_1)))) else (some ((([] : List (S48))), 1, (([] : List Int)))))) = some (r1, r2, r3) := h
 clear h
 replace H := Option.bind_eq_some_iff.mp H
 obtain ⟨t314, A20, H⟩ := H
 replace H : (if t314 = true then ((spec_l04All.f k a0_0 l0_1).bind fun t321 => ((spec_l04Keeps.f k a0_0 l0_1 t321).bind fun bt324 => (if bt324.2 = true then (some (bt324.1, 0, (([] : List Int)))) else (spec_SketchSolve.l0 k t321 (wrap64 ((t321.length : Int) - 1)) a0_0 l0_1)))) else (some ((([] : List (S48))), 1, (([] : List Int))))) = some (r1, r2, r3) := H
 have A2 := zA A20
 clear A20
 by_cases c3 : t314 = true
 ·subst c3
  have H1 : ((spec_l04All.f k a0_0 l0_1).bind fun t321 => ((spec_l04Keeps.f k a0_0 l0_1 t321).bind fun bt324 => (if bt324.2 = true then (some (bt324.1, 0, (([] : List Int)))) else (spec_SketchSolve.l0 k t321 (wrap64 ((t321.length : Int) - 1)) a0_0 l0_1)))) = some (r1, r2, r3) := by rw [if_pos rfl] at H; exact H
  clear H
  have H := H1
  clear H1
  replace H := Option.bind_eq_some_iff.mp H
  obtain ⟨t321, A40, H⟩ := H
  replace H : ((spec_l04Keeps.f k a0_0 l0_1 t321).bind fun bt324 => (if bt324.2 = true then (some (bt324.1, 0, (([] : List Int)))) else (spec_SketchSolve.l0 k t321 (wrap64 ((t321.length : Int) - 1)) a0_0 l0_1))) = some (r1, r2, r3) := H
  have A4 := zA A40
  clear A40
  replace H := Option.bind_eq_some_iff.mp H
  obtain ⟨⟨t324, t327⟩, A50, H⟩ := H
  replace H : (if t327 = true then (some (t324, 0, (([] : List Int)))) else (spec_SketchSolve.l0 k t321 (wrap64 ((t321.length : Int) - 1)) a0_0 l0_1)) = some (r1, r2, r3) := H
  have A5 := zA A50
  clear A50
  by_cases c6 : t327 = true
  ·subst c6
   have H1 : (some (t324, 0, (([] : List Int)))) = some (r1, r2, r3) := by rw [if_pos rfl] at H; exact H
   clear H
   have H := H1
   clear H1
   obtain ⟨y328, hy328⟩ : ∃ y_ : List Int, y_ = (([] : List Int)) := ⟨_, rfl⟩
   replace H : (some (t324, 0, y328)) = some (r1, r2, r3) := by first | (rw [hy328]; with_reducible exact H) | (have H2_ := (Option.bind_some _ _).symm.trans H; rw [hy328]; with_reducible exact H2_) | (have H2_ := (Option.bind_some _ _).symm.trans H; with_reducible exact H2_) | with_reducible exact H | (rw [hy328]; exact H) | exact H
   have Ny328 := zA hy328
   clear hy328
   simp only [Option.some.injEq, Prod.mk.injEq] at H
   obtain ⟨rfl, rfl, rfl⟩ := H
   go_enter Try.func10, Try.ntmps10
   go_wp2_with (first | ((with_reducible refine gate_dst (N := 1) rfl ?_); refine box_event ?hg (N := 1) ?hd (cs := #[.int .i64 a0_0, .slice A0_1 l0_1.length c0_1]) (t := 25) ?hr ?_; (case hd => rfl); (case hg => rfl); (case hr => first | (go_simp; done) | (go_simp; rfl)); intro gb313 hg w7 hbox hb; have n0_ := zA (below_step (bB_ HB) hb); have n1_ := zA (hbox); have n2_ := zA ((by rw [hg]; exact (zT (bB_ HB)) : w.heap.size ≤ gb313)); have n3_ := zA ((by rw [hg]; exact (zT (bB_ HB)) : w.heap.size ≤ gb313)); clear HB; have HB := n0_; have BK313 := n1_; have GW313 := n2_; have GE313 := n3_; clear n0_ n1_ n2_ n3_; clear hb hbox hg; have hcz8_0 : w7.cell? ⟨gb313, 0, none⟩ = some (.int .i64 a0_0) := (blk_cell BK313.out 0).trans rfl; have hcz8_1 : w7.cell? ⟨gb313, 1, none⟩ = some (.slice A0_1 l0_1.length c0_1) := (blk_cell BK313.out 1).trans rfl; have hfz8_0 := blk_frozen BK313.out 0; have hfz8_1 := blk_frozen BK313.out 1) | ((with_reducible refine gate_callee (f := 16) rfl ?_); refine goesL_ (some 11) rfl rfl Try.func16 (by kernel_rfl) rfl #[.agg #[.int .i64 a0_0, .slice A0_1 l0_1.length c0_1]] rfl (by (try simp only [List.map_toArray, List.map_cons, List.map_nil]); first | done | rfl | (simp only [List.length_drop, List.length_take]; rfl)) ?_; (with_reducible refine (spec_SketchOK.calls k a0_0 _ _ l0_1 true _ ?side1 ?side2 A2.out).mono ?_); (case side1 => repeat (first | exact (Kd.C_below HR0_1.out HB.out) | (with_reducible refine zI ?_ _) | (with_reducible refine zH ?_ _) | (with_reducible refine zJ ?_))); (case side2 => exact HC0_1.out); rintro e w9 ⟨rfl, hb⟩; refine ⟨_, rfl, ?_⟩; have n0_ := zA (zU (g := gb313) (o := .cells #[.int .i64 a0_0, .slice A0_1 l0_1.length c0_1] 25 (0, 0)) (bA_ BK313) hb); have n1_ := zA (below_step (bB_ HB) hb); clear BK313; clear HB; have BK313 := n0_; have HB := n1_; clear n0_ n1_; (try clear hb); (try clear hb2); (try clear hk); (try clear hi); have hcz10_0 : w9.cell? ⟨gb313, 0, none⟩ = some (.int .i64 a0_0) := (blk_cell BK313.out 0).trans rfl; have hcz10_1 : w9.cell? ⟨gb313, 1, none⟩ = some (.slice A0_1 l0_1.length c0_1) := (blk_cell BK313.out 1).trans rfl; have hfz10_0 := blk_frozen BK313.out 0; have hfz10_1 := blk_frozen BK313.out 1) | ((with_reducible refine gate_callee (f := 34) rfl ?_); refine goesL_ (some 16) rfl rfl Try.func34 (by kernel_rfl) rfl #[.agg #[.int .i64 a0_0, .slice A0_1 l0_1.length c0_1]] rfl (by (try simp only [List.map_toArray, List.map_cons, List.map_nil]); first | done | rfl | (simp only [List.length_drop, List.length_take]; rfl)) ?_; (with_reducible refine (spec_l04All.calls k a0_0 _ _ l0_1 t321 _ ?side1 ?side2 A4.out).mono ?_); (case side1 => repeat (first | exact (Kd.C_below HR0_1.out HB.out) | (with_reducible refine zI ?_ _) | (with_reducible refine zH ?_ _) | (with_reducible refine zJ ?_))); (case side2 => exact HC0_1.out); rintro e w11 ⟨v322, rfl, ho0, hb⟩; refine ⟨_, rfl, ?_⟩; have n0_ := zA (Kd.R_lower ho0 (zT (bB_ HB))); have n1_ := zA (zU (g := gb313) (o := .cells #[.int .i64 a0_0, .slice A0_1 l0_1.length c0_1] 25 (0, 0)) (bA_ BK313) hb); have n2_ := zA (below_step (bB_ HB) hb); clear BK313; clear HB; have HO323 := n0_; have BK313 := n1_; have HB := n2_; clear n0_ n1_ n2_; (try clear hb); (try clear hb2); (try clear hk); (try clear hi); (try clear ho0); have hcz12_0 : w11.cell? ⟨gb313, 0, none⟩ = some (.int .i64 a0_0) := (blk_cell BK313.out 0).trans rfl; have hcz12_1 : w11.cell? ⟨gb313, 1, none⟩ = some (.slice A0_1 l0_1.length c0_1) := (blk_cell BK313.out 1).trans rfl; have hfz12_0 := blk_frozen BK313.out 0; have hfz12_1 := blk_frozen BK313.out 1; obtain ⟨Ao13, co13, eo13⟩ := Kd.R_slice HO323.out; subst eo13) | ((with_reducible refine gate_callee (f := 35) rfl ?_); refine goesL_ (some 20) rfl rfl Try.func35 (by kernel_rfl) rfl #[.agg #[.int .i64 a0_0, .slice A0_1 l0_1.length c0_1], .slice Ao13 t321.length co13] rfl (by (try simp only [List.map_toArray, List.map_cons, List.map_nil]); first | done | rfl | (simp only [List.length_drop, List.length_take]; rfl)) ?_; (with_reducible refine (spec_l04Keeps.calls k a0_0 _ _ l0_1 _ _ t321 t324 true _ ?side1 ?side2 ?side3 ?side4 A5.out).mono ?_); (case side1 => repeat (first | exact (Kd.C_below HR0_1.out HB.out) | (with_reducible refine zI ?_ _) | (with_reducible refine zH ?_ _) | (with_reducible refine zJ ?_))); (case side2 => exact HC0_1.out); (case side3 => repeat (first | exact (zK HO323.out).2.2 | (with_reducible refine zI ?_ _) | (with_reducible refine zH ?_ _) | (with_reducible refine zJ ?_))); (case side4 => exact (zK HO323.out).2.1); rintro e w14 ⟨v325, rfl, ho0, hb⟩; refine ⟨_, rfl, ?_⟩; have n0_ := zA (zL (bC_ HO323) hb); have n1_ := zA (Kd.R_lower ho0 (zT (bB_ HB))); have n2_ := zA (zU (g := gb313) (o := .cells #[.int .i64 a0_0, .slice A0_1 l0_1.length c0_1] 25 (0, 0)) (bA_ BK313) hb); have n3_ := zA (below_step (bB_ HB) hb); clear HO323; clear BK313; clear HB; have HO323 := n0_; have HO326 := n1_; have BK313 := n2_; have HB := n3_; clear n0_ n1_ n2_ n3_; (try clear hb); (try clear hb2); (try clear hk); (try clear hi); (try clear ho0)) | ((with_reducible refine gate_dst (N := 25) rfl ?_); refine Kd.R_lit (Kd.int .i64) _ 3 ?hg (N := 25) ?hd (xs := ([] : List Int)) (inner := []) (ok := fun _ => True) (okp := fun _ => True) ?hr ?hp (fun _ hk => hk) trivial (Below.refl _ _) (Nat.le_refl _) (by simp) ?_; (case hd => rfl); (case hg => rfl); (case hr => first | (go_simp; done) | (go_simp; rfl)); (case hp => exact (Reps.none _ _)); intro v329 w15 ho16 hb hg_ hnew_; clear hg_ hnew_; (first | rw [← Ny328.out] at ho16 | (simp only [Int.reduceToNat] at ho16; rw [← Ny328.out] at ho16)); have n0_ := zA (Kd.R_elder' (bC_ HO323) (Kd.R_base ho16) hb); have n1_ := zA (zL (bC_ HO326) hb); have n2_ := zA (Kd.R_lower (Kd.R_new' ho16 (Kd.R_lt (bC_ HO323))) (zT (bB_ HB))); have n3_ := zA (zU (g := gb313) (o := .cells #[.int .i64 a0_0, .slice A0_1 l0_1.length c0_1] 25 (0, 0)) (bA_ BK313) hb); have n4_ := zA (below_step (bB_ HB) hb); clear HO323; clear HO326; clear BK313; clear HB; have HO323 := n0_; have HO326 := n1_; have HO330 := n2_; have BK313 := n3_; have HB := n4_; clear n0_ n1_ n2_ n3_ n4_; clear hb ho16))
   go_ret3
   exact ⟨_, _, by first | rfl | (simp [errW_none, errW_some] <;> rfl) | (simp [*, errW_none, errW_some] <;> rfl), bC_ HO326, by (with_reducible repeat (first | apply zF | apply zE | apply zG)); exact Kd.R_mono HO330.out (fun _ hk => trivial), bB_ HB⟩
  ·replace c6 := Bool.eq_false_iff.mpr c6
   subst c6
   have H1 : (spec_SketchSolve.l0 k t321 (wrap64 ((t321.length : Int) - 1)) a0_0 l0_1) = some (r1, r2, r3) := by rw [if_neg (show ¬ (false = true) by decide)] at H; exact H
   clear H
   have H := H1
   clear H1
   have H' := zA H
   clear H
   go_enter Try.func10, Try.ntmps10
   go_wp2_with (first | ((with_reducible refine gate_dst (N := 1) rfl ?_); refine box_event ?hg (N := 1) ?hd (cs := #[.int .i64 a0_0, .slice A0_1 l0_1.length c0_1]) (t := 25) ?hr ?_; (case hd => rfl); (case hg => rfl); (case hr => first | (go_simp; done) | (go_simp; rfl)); intro gb313 hg w17 hbox hb; have n0_ := zA (below_step (bB_ HB) hb); have n1_ := zA (hbox); have n2_ := zA ((by rw [hg]; exact (zT (bB_ HB)) : w.heap.size ≤ gb313)); have n3_ := zA ((by rw [hg]; exact (zT (bB_ HB)) : w.heap.size ≤ gb313)); clear HB; have HB := n0_; have BK313 := n1_; have GW313 := n2_; have GE313 := n3_; clear n0_ n1_ n2_ n3_; clear hb hbox hg; have hcz18_0 : w17.cell? ⟨gb313, 0, none⟩ = some (.int .i64 a0_0) := (blk_cell BK313.out 0).trans rfl; have hcz18_1 : w17.cell? ⟨gb313, 1, none⟩ = some (.slice A0_1 l0_1.length c0_1) := (blk_cell BK313.out 1).trans rfl; have hfz18_0 := blk_frozen BK313.out 0; have hfz18_1 := blk_frozen BK313.out 1) | ((with_reducible refine gate_callee (f := 16) rfl ?_); refine goesL_ (some 11) rfl rfl Try.func16 (by kernel_rfl) rfl #[.agg #[.int .i64 a0_0, .slice A0_1 l0_1.length c0_1]] rfl (by (try simp only [List.map_toArray, List.map_cons, List.map_nil]); first | done | rfl | (simp only [List.length_drop, List.length_take]; rfl)) ?_; (with_reducible refine (spec_SketchOK.calls k a0_0 _ _ l0_1 true _ ?side1 ?side2 A2.out).mono ?_); (case side1 => repeat (first | exact (Kd.C_below HR0_1.out HB.out) | (with_reducible refine zI ?_ _) | (with_reducible refine zH ?_ _) | (with_reducible refine zJ ?_))); (case side2 => exact HC0_1.out); rintro e w19 ⟨rfl, hb⟩; refine ⟨_, rfl, ?_⟩; have n0_ := zA (zU (g := gb313) (o := .cells #[.int .i64 a0_0, .slice A0_1 l0_1.length c0_1] 25 (0, 0)) (bA_ BK313) hb); have n1_ := zA (below_step (bB_ HB) hb); clear BK313; clear HB; have BK313 := n0_; have HB := n1_; clear n0_ n1_; (try clear hb); (try clear hb2); (try clear hk); (try clear hi); have hcz20_0 : w19.cell? ⟨gb313, 0, none⟩ = some (.int .i64 a0_0) := (blk_cell BK313.out 0).trans rfl; have hcz20_1 : w19.cell? ⟨gb313, 1, none⟩ = some (.slice A0_1 l0_1.length c0_1) := (blk_cell BK313.out 1).trans rfl; have hfz20_0 := blk_frozen BK313.out 0; have hfz20_1 := blk_frozen BK313.out 1) | ((with_reducible refine gate_callee (f := 34) rfl ?_); refine goesL_ (some 16) rfl rfl Try.func34 (by kernel_rfl) rfl #[.agg #[.int .i64 a0_0, .slice A0_1 l0_1.length c0_1]] rfl (by (try simp only [List.map_toArray, List.map_cons, List.map_nil]); first | done | rfl | (simp only [List.length_drop, List.length_take]; rfl)) ?_; (with_reducible refine (spec_l04All.calls k a0_0 _ _ l0_1 t321 _ ?side1 ?side2 A4.out).mono ?_); (case side1 => repeat (first | exact (Kd.C_below HR0_1.out HB.out) | (with_reducible refine zI ?_ _) | (with_reducible refine zH ?_ _) | (with_reducible refine zJ ?_))); (case side2 => exact HC0_1.out); rintro e w21 ⟨v322, rfl, ho0, hb⟩; refine ⟨_, rfl, ?_⟩; have n0_ := zA (Kd.R_lower ho0 (zT (bB_ HB))); have n1_ := zA (zU (g := gb313) (o := .cells #[.int .i64 a0_0, .slice A0_1 l0_1.length c0_1] 25 (0, 0)) (bA_ BK313) hb); have n2_ := zA (below_step (bB_ HB) hb); clear BK313; clear HB; have HO323 := n0_; have BK313 := n1_; have HB := n2_; clear n0_ n1_ n2_; (try clear hb); (try clear hb2); (try clear hk); (try clear hi); (try clear ho0); have hcz22_0 : w21.cell? ⟨gb313, 0, none⟩ = some (.int .i64 a0_0) := (blk_cell BK313.out 0).trans rfl; have hcz22_1 : w21.cell? ⟨gb313, 1, none⟩ = some (.slice A0_1 l0_1.length c0_1) := (blk_cell BK313.out 1).trans rfl; have hfz22_0 := blk_frozen BK313.out 0; have hfz22_1 := blk_frozen BK313.out 1; obtain ⟨Ao23, co23, eo23⟩ := Kd.R_slice HO323.out; subst eo23) | ((with_reducible refine gate_callee (f := 35) rfl ?_); refine goesL_ (some 20) rfl rfl Try.func35 (by kernel_rfl) rfl #[.agg #[.int .i64 a0_0, .slice A0_1 l0_1.length c0_1], .slice Ao23 t321.length co23] rfl (by (try simp only [List.map_toArray, List.map_cons, List.map_nil]); first | done | rfl | (simp only [List.length_drop, List.length_take]; rfl)) ?_; (with_reducible refine (spec_l04Keeps.calls k a0_0 _ _ l0_1 _ _ t321 t324 false _ ?side1 ?side2 ?side3 ?side4 A5.out).mono ?_); (case side1 => repeat (first | exact (Kd.C_below HR0_1.out HB.out) | (with_reducible refine zI ?_ _) | (with_reducible refine zH ?_ _) | (with_reducible refine zJ ?_))); (case side2 => exact HC0_1.out); (case side3 => repeat (first | exact (zK HO323.out).2.2 | (with_reducible refine zI ?_ _) | (with_reducible refine zH ?_ _) | (with_reducible refine zJ ?_))); (case side4 => exact (zK HO323.out).2.1); rintro e w24 ⟨v325, rfl, ho0, hb⟩; refine ⟨_, rfl, ?_⟩; have n0_ := zA (zL (bC_ HO323) hb); have n1_ := zA (Kd.R_lower ho0 (zT (bB_ HB))); have n2_ := zA (zU (g := gb313) (o := .cells #[.int .i64 a0_0, .slice A0_1 l0_1.length c0_1] 25 (0, 0)) (bA_ BK313) hb); have n3_ := zA (below_step (bB_ HB) hb); clear HO323; clear BK313; clear HB; have HO323 := n0_; have HO326 := n1_; have BK313 := n2_; have HB := n3_; clear n0_ n1_ n2_ n3_; (try clear hb); (try clear hb2); (try clear hk); (try clear hi); (try clear ho0)))
   go_loopg [5, 8] k (fun kq v5 v8 w' => ∃ (x5_1 : List Int) (x8_1 : Int), v8 = .int .i64 x8_1 ∧ Aside0 (spec_SketchSolve.l0 kq x5_1 x8_1 a0_0 l0_1 = some (r1, r2, r3)) ∧ Aside0 (kq ≤ k) ∧ Aside0 (Kd.R (Kd.int .i64) 3 w' w.heap.size (fun _ => True) v5 x5_1) ∧ Aside0 (w'.heap[gb313]? = some (.cells #[.int .i64 a0_0, (.slice A0_1 l0_1.length c0_1)] 25 (0, 0))) ∧ Aside0 (Below w.heap.size w w'))
   case atStart => exact ⟨(t321), (wrap64 ((t321.length : Int) - 1)), (by first | rfl | (simp; done) | (simp [*]; done)), H', ⟨Nat.le_refl _⟩, ⟨bC_ HO323⟩, ⟨bA_ BK313⟩, ⟨bB_ HB⟩⟩
   case round =>
    clear H'
    try clear c1
    try clear p2
    try clear c3
    try clear c6
    try clear p6
    try clear c10
    try clear c16
    try clear hcz10_0
    try clear hcz10_1
    try clear hcz12_0
    try clear hcz12_1
    try clear hcz18_0
    try clear hcz18_1
    try clear hcz20_0
    try clear hcz20_1
    try clear hcz22_0
    try clear hcz22_1
    try clear hcz8_0
    try clear hcz8_1
    try clear hfz10_0
    try clear hfz10_1
    try clear hfz12_0
    try clear hfz12_1
    try clear hfz18_0
    try clear hfz18_1
    try clear hfz20_0
    try clear hfz20_1
    try clear hfz22_0
    try clear hfz22_1
    try clear hfz8_0
    try clear hfz8_1
    obtain ⟨x5_1, x8_1, rfl, HA, HK1, HO_5, BK313, HB⟩ := hrel
    cases gk with
    | zero => exact absurd HA.out (by simp [spec_SketchSolve.l0])
    | succ k1 =>
     have H := HA.out
     clear HA
     simp only [spec_SketchSolve.l0] at H
     by_cases c25 : x8_1 ≥ 0
     ·rw [if_pos c25] at H
      have c25b0 : decide (0 ≤ x8_1) = true := decide_eq_true c25
      clear c25
      obtain ⟨y331, hy331⟩ : ∃ y_ : List Int, y_ = (([] : List Int)) := ⟨_, rfl⟩
      replace H : (if 0 ≤ x8_1 then (if x8_1 ≤ (x5_1.length : Int) then ((some (x5_1.take (x8_1 : Int).toNat : List Int)).bind fun y334 => (if y331.length + y334.length < 17592186044416 then ((some (y331 ++ y334 : List Int)).bind fun y338 => (if 0 ≤ (wrap64 (x8_1 + 1)) then (if (wrap64 (x8_1 + 1)) ≤ (x5_1.length : Int) then ((some (x5_1.drop ((wrap64 (x8_1 + 1)) : Int).toNat : List Int)).bind fun y341 => (if y338.length + y341.length < 17592186044416 then ((some (y338 ++ y341 : List Int)).bind fun y345 => ((spec_l04Keeps.f k1 a0_0 l0_1 y345).bind fun bt348 => (if bt348.2 = true then (spec_SketchSolve.l0 k1 x5_1 (wrap64 (x8_1 - 1)) a0_0 l0_1) else (spec_SketchSolve.l0 k1 y345 (wrap64 (x8_1 - 1)) a0_0 l0_1)))) else (none))) else (none)) else (none))) else (none))) else (none)) else (none)) = some (r1, r2, r3) := by first | (rw [hy331]; with_reducible exact H) | (have H2_ := (Option.bind_some _ _).symm.trans H; rw [hy331]; with_reducible exact H2_) | (have H2_ := (Option.bind_some _ _).symm.trans H; with_reducible exact H2_) | with_reducible exact H | (rw [hy331]; exact H) | exact H
      have Ny331 := zA hy331
      clear hy331
      by_cases c26 : 0 ≤ x8_1
      ·rw [if_pos c26] at H
       have c26b0 := eq_true c26
       have c26b1 : decide (0 ≤ x8_1) = true := decide_eq_true c26
       clear c26
       by_cases c27 : x8_1 ≤ (x5_1.length : Int)
       ·rw [if_pos c27] at H
        have c27b0 := eq_true c27
        have c27b1 : decide (x8_1 ≤ (x5_1.length : Int)) = true := decide_eq_true c27
        clear c27
        obtain ⟨y334, hy334⟩ : ∃ y_ : List Int, y_ = (x5_1.take (x8_1 : Int).toNat) := ⟨_, rfl⟩
        replace H : (if y331.length + y334.length < 17592186044416 then ((some (y331 ++ y334 : List Int)).bind fun y338 => (if 0 ≤ (wrap64 (x8_1 + 1)) then (if (wrap64 (x8_1 + 1)) ≤ (x5_1.length : Int) then ((some (x5_1.drop ((wrap64 (x8_1 + 1)) : Int).toNat : List Int)).bind fun y341 => (if y338.length + y341.length < 17592186044416 then ((some (y338 ++ y341 : List Int)).bind fun y345 => ((spec_l04Keeps.f k1 a0_0 l0_1 y345).bind fun bt348 => (if bt348.2 = true then (spec_SketchSolve.l0 k1 x5_1 (wrap64 (x8_1 - 1)) a0_0 l0_1) else (spec_SketchSolve.l0 k1 y345 (wrap64 (x8_1 - 1)) a0_0 l0_1)))) else (none))) else (none)) else (none))) else (none)) = some (r1, r2, r3) := by first | (rw [hy334]; with_reducible exact H) | (have H2_ := (Option.bind_some _ _).symm.trans H; rw [hy334]; with_reducible exact H2_) | (have H2_ := (Option.bind_some _ _).symm.trans H; with_reducible exact H2_) | with_reducible exact H | (rw [hy334]; exact H) | exact H
        have Ny334 := zA hy334
        clear hy334
        by_cases c28 : y331.length + y334.length < 17592186044416
        ·rw [if_pos c28] at H
         have LMc28 := zA c28
         clear c28
         obtain ⟨y338, hy338⟩ : ∃ y_ : List Int, y_ = (y331 ++ y334) := ⟨_, rfl⟩
         replace H : (if 0 ≤ (wrap64 (x8_1 + 1)) then (if (wrap64 (x8_1 + 1)) ≤ (x5_1.length : Int) then ((some (x5_1.drop ((wrap64 (x8_1 + 1)) : Int).toNat : List Int)).bind fun y341 => (if y338.length + y341.length < 17592186044416 then ((some (y338 ++ y341 : List Int)).bind fun y345 => ((spec_l04Keeps.f k1 a0_0 l0_1 y345).bind fun bt348 => (if bt348.2 = true then (spec_SketchSolve.l0 k1 x5_1 (wrap64 (x8_1 - 1)) a0_0 l0_1) else (spec_SketchSolve.l0 k1 y345 (wrap64 (x8_1 - 1)) a0_0 l0_1)))) else (none))) else (none)) else (none)) = some (r1, r2, r3) := by first | (rw [hy338]; with_reducible exact H) | (have H2_ := (Option.bind_some _ _).symm.trans H; rw [hy338]; with_reducible exact H2_) | (have H2_ := (Option.bind_some _ _).symm.trans H; with_reducible exact H2_) | with_reducible exact H | (rw [hy338]; exact H) | exact H
         have Ny338 := zA hy338
         clear hy338
         obtain ⟨ji29, hji29⟩ : ∃ j_ : Int, (wrap64 (x8_1 + 1)) = j_ := ⟨_, rfl⟩
         replace H : (if 0 ≤ (ji29) then (if (ji29) ≤ (x5_1.length : Int) then ((some (x5_1.drop ((ji29) : Int).toNat : List Int)).bind fun y341 => (if y338.length + y341.length < 17592186044416 then ((some (y338 ++ y341 : List Int)).bind fun y345 => ((spec_l04Keeps.f k1 a0_0 l0_1 y345).bind fun bt348 => (if bt348.2 = true then (spec_SketchSolve.l0 k1 x5_1 (wrap64 (x8_1 - 1)) a0_0 l0_1) else (spec_SketchSolve.l0 k1 y345 (wrap64 (x8_1 - 1)) a0_0 l0_1)))) else (none))) else (none)) else (none)) = some (r1, r2, r3) := by first | (rw [hji29] at H; exact H) | (simp only [hji29] at H ⊢; exact H)
         have hji29w : (IntKind.i64.wrap (x8_1 + 1)) = ji29 := (i64_w _).trans hji29
         by_cases c30 : 0 ≤ (ji29)
         ·rw [if_pos c30] at H
          have c30b0 := eq_true c30
          have c30b1 : decide (0 ≤ (ji29)) = true := decide_eq_true c30
          clear c30
          by_cases c31 : (ji29) ≤ (x5_1.length : Int)
          ·rw [if_pos c31] at H
           have c31b0 := eq_true c31
           have c31b1 : decide ((ji29) ≤ (x5_1.length : Int)) = true := decide_eq_true c31
           clear c31
           obtain ⟨y341, hy341⟩ : ∃ y_ : List Int, y_ = (x5_1.drop ((ji29) : Int).toNat) := ⟨_, rfl⟩
           replace H : (if y338.length + y341.length < 17592186044416 then ((some (y338 ++ y341 : List Int)).bind fun y345 => ((spec_l04Keeps.f k1 a0_0 l0_1 y345).bind fun bt348 => (if bt348.2 = true then (spec_SketchSolve.l0 k1 x5_1 (wrap64 (x8_1 - 1)) a0_0 l0_1) else (spec_SketchSolve.l0 k1 y345 (wrap64 (x8_1 - 1)) a0_0 l0_1)))) else (none)) = some (r1, r2, r3) := by first | (rw [hy341]; with_reducible exact H) | (have H2_ := (Option.bind_some _ _).symm.trans H; rw [hy341]; with_reducible exact H2_) | (have H2_ := (Option.bind_some _ _).symm.trans H; with_reducible exact H2_) | with_reducible exact H | (rw [hy341]; exact H) | exact H
           have Ny341 := zA hy341
           clear hy341
           by_cases c32 : y338.length + y341.length < 17592186044416
           ·rw [if_pos c32] at H
            have LMc32 := zA c32
            clear c32
            obtain ⟨y345, hy345⟩ : ∃ y_ : List Int, y_ = (y338 ++ y341) := ⟨_, rfl⟩
            replace H : ((spec_l04Keeps.f k1 a0_0 l0_1 y345).bind fun bt348 => (if bt348.2 = true then (spec_SketchSolve.l0 k1 x5_1 (wrap64 (x8_1 - 1)) a0_0 l0_1) else (spec_SketchSolve.l0 k1 y345 (wrap64 (x8_1 - 1)) a0_0 l0_1))) = some (r1, r2, r3) := by first | (rw [hy345]; with_reducible exact H) | (have H2_ := (Option.bind_some _ _).symm.trans H; rw [hy345]; with_reducible exact H2_) | (have H2_ := (Option.bind_some _ _).symm.trans H; with_reducible exact H2_) | with_reducible exact H | (rw [hy345]; exact H) | exact H
            have Ny345 := zA hy345
            clear hy345
            replace H := Option.bind_eq_some_iff.mp H
            obtain ⟨⟨t348, t351⟩, A330, H⟩ := H
            replace H : (if t351 = true then (spec_SketchSolve.l0 k1 x5_1 (wrap64 (x8_1 - 1)) a0_0 l0_1) else (spec_SketchSolve.l0 k1 y345 (wrap64 (x8_1 - 1)) a0_0 l0_1)) = some (r1, r2, r3) := H
            have A33 := zA A330
            clear A330
            by_cases c34 : t351 = true
            ·subst c34
             have H1 : (spec_SketchSolve.l0 k1 x5_1 (wrap64 (x8_1 - 1)) a0_0 l0_1) = some (r1, r2, r3) := by rw [if_pos rfl] at H; exact H
             clear H
             have H := H1
             clear H1
             have H' := zA H
             clear H
             try go_wp2
             have n0_ := zA (zG HO_5.out)
             have n1_ := zA (blk_drew BK313.out)
             have n2_ := zA (below_drew1 HB.out)
             clear HO_5
             clear BK313
             clear HB
             have HO_5 := n0_
             have BK313 := n1_
             have HB := n2_
             clear n0_ n1_ n2_
             obtain ⟨Ao37, co37, eo37⟩ := Kd.R_slice HO_5.out
             (first | subst eo37 | (injection eo37 with f1_ f2_ f3_; have f4_ := f1_.symm; have f5_ := f3_.symm; clear f1_ f2_ f3_; subst f4_; subst f5_))
             have q36 : (x8_1 : Int) ≤ ((x5_1.length : Int) : Int) := of_decide_eq_true (by first | (with_reducible assumption) | assumption)
             obtain ⟨i036, hi036, _, hsz36, _⟩ := info_parts info3
             have hroom36 : x5_1.length ≤ co37 := (zK HO_5.out).2.1
             have hC36 : Kd.C (Kd.int .i64) _ Ao37 x5_1.length x5_1 := (zK HO_5.out).2.2
             have hcut36 := cut_to (P := Try.prog) 28 3 .i64 Try.underlying28 hi036 Ao37 x5_1.length co37 x8_1 (of_decide_eq_true (by first | (with_reducible assumption) | assumption)) q36 hroom36
             have hr36 := Kd.C_take (m := (x8_1 : Int).toNat) hC36 (by omega)
             have hy36 : y334.length = (x8_1 : Int).toNat := (by rw [Ny334.out, List.length_take]; omega)
             rw [← Ny334.out] at hr36
             rw [← hy36] at hcut36
             have HR337 := zA hr36
             have HC337 := zA (show y334.length ≤ co37 from by omega)
             clear hr36 hC36 hroom36 hi036 hsz36
             have KY36 := zA hy36
             clear hy36
             have KL36 := zA (show (x8_1 : Int).toNat ≤ x5_1.length from by omega)
             replace q36 := eq_true q36
             have q38 : ((ji29) : Int) ≤ ((x5_1.length : Int) : Int) := of_decide_eq_true (by first | (with_reducible assumption) | assumption)
             obtain ⟨i038, hi038, _, hsz38, _⟩ := info_parts info3
             have hroom38 : x5_1.length ≤ co37 := (zK HO_5.out).2.1
             have hC38 : Kd.C (Kd.int .i64) _ Ao37 x5_1.length x5_1 := (zK HO_5.out).2.2
             have q038 : (0 : Int) ≤ ((ji29) : Int) := of_decide_eq_true (by first | (with_reducible assumption) | assumption)
             have hcut38 := cut_from (P := Try.prog) 28 3 .i64 Try.underlying28 hi038 1 hsz38 Ao37 x5_1.length co37 (ji29) q038 q38
             have hr38 := Kd.C_drop (m := ((ji29) : Int).toNat) (c := co37) hC38 (by omega) hroom38
             obtain ⟨A38, hA38⟩ : ∃ A1, A1 = (if co37 = ((ji29) : Int).toNat then Ao37 else (Ao37 : Option Addr).map (·.add (((ji29) : Int).toNat * 1))) := ⟨_, rfl⟩
             obtain ⟨c38, hc38⟩ : ∃ c1, c1 = co37 - ((ji29) : Int).toNat := ⟨_, rfl⟩
             have hy38 : y341.length = x5_1.length - ((ji29) : Int).toNat := (by rw [Ny341.out, List.length_drop] <;> omega)
             rw [show (x5_1).drop ((ji29) : Int).toNat = y341 from Ny341.out.symm] at hr38
             replace hr38 : Kd.C (Kd.int .i64) _ A38 y341.length y341 := (by rw [hA38]; exact hr38)
             rw [← hy38, ← hA38, ← hc38] at hcut38
             have HR344 := zA hr38
             have HC344 := zA (show y341.length ≤ c38 from by rw [hy38, hc38]; exact Nat.sub_le_sub_right hroom38 _)
             clear hr38 hC38 hroom38 hi038 hsz38 hc38
             have KY38 := zA hy38
             have KA38 := zA hA38
             clear hy38 hA38
             have KL38 := zA (show ((ji29) : Int).toNat ≤ x5_1.length from by omega)
             replace q38 := eq_true q38
             refine start_ (n := 11) (S := fun w' => True) (ds := []) #[false, false, false, false, false, false, false, false, false, false, false] (by kernel_rfl) rfl rfl trivial (fun hHeld => ?_); refine with_tabW spec_SketchSolve.tab10 spec_SketchSolve.bits10 (fun HT_ HW_ => ?_)
             generalize wr.drew = w35 at HO_5 BK313 HB HR337 HR344 hHeld ⊢
             refine pure_ (i := 1) (N := some 34) (v := ?_) (a' := ?_) #[false, true, false, false, false, false, false, false, false, false, false] rfl rfl (any_of HT_.out (by kernel_rfl)) (fun _ _ _ h => h) (Or.inl ⟨by rfl, ?_⟩) ?_ ?_
             rotate_left
             ·intro w'
              go_simp
              with_reducible rfl
             rotate_left
             ·simp only [Act.put, zB, zC, zD, i64_w, i32_w]
              rfl
             refine pure_ (i := 2) (N := some 35) (v := ?_) (a' := ?_) #[false, true, true, false, false, false, false, false, false, false, false] rfl rfl (any_of HT_.out (by kernel_rfl)) (fun _ _ _ h => h) (Or.inl ⟨by rfl, ?_⟩) ?_ ?_
             rotate_left
             ·intro w'
              go_simp
              with_reducible rfl
             rotate_left
             ·simp only [Act.put, zB, zC, zD, i64_w, i32_w]
              rfl
             refine pure_ (i := 3) (N := some 36) (v := ?_) (a' := ?_) #[false, true, true, true, false, false, false, false, false, false, false] rfl rfl (any_of HT_.out (by kernel_rfl)) (fun _ _ _ h => h) (Or.inl ⟨by rfl, ?_⟩) ?_ ?_
             rotate_left
             ·intro w'
              go_simp
              with_reducible rfl
             rotate_left
             ·simp only [Act.put, zB, zC, zD, i64_w, i32_w]
              rfl
             refine pure_ (i := 5) (N := some 38) (v := ?_) (a' := ?_) #[false, true, true, true, false, true, false, false, false, false, false] rfl rfl (any_of HT_.out (by kernel_rfl)) (fun _ _ _ h => h) (Or.inl ⟨by rfl, ?_⟩) ?_ ?_
             rotate_left
             ·intro w'
              go_simp
              with_reducible rfl
             rotate_left
             ·simp only [Act.put, zB, zC, zD, i64_w, i32_w]
              rfl
             refine pure_ (i := 6) (N := some 39) (v := ?_) (a' := ?_) #[false, true, true, true, false, true, true, false, false, false, false] rfl rfl (any_of HT_.out (by kernel_rfl)) (fun _ _ _ h => h) (Or.inl ⟨by rfl, ?_⟩) ?_ ?_
             rotate_left
             ·intro w'
              go_simp
              with_reducible rfl
             rotate_left
             ·simp only [Act.put, zB, zC, zD, i64_w, i32_w]
              rfl
             refine pure_ (i := 7) (N := some 40) (v := ?_) (a' := ?_) #[false, true, true, true, false, true, true, true, false, false, false] rfl rfl (any_of HT_.out (by kernel_rfl)) (fun _ _ _ h => h) (Or.inl ⟨by rfl, ?_⟩) ?_ ?_
             rotate_left
             ·intro w'
              go_simp
              with_reducible rfl
             rotate_left
             ·simp only [Act.put, zB, zC, zD, i64_w, i32_w]
              rfl
             refine pure_ (i := 8) (N := some 41) (v := ?_) (a' := ?_) #[false, true, true, true, false, true, true, true, true, false, false] rfl rfl (any_of HT_.out (by kernel_rfl)) (fun _ _ _ h => h) (Or.inl ⟨by rfl, ?_⟩) ?_ ?_
             rotate_left
             ·intro w'
              go_simp
              with_reducible rfl
             rotate_left
             ·simp only [Act.put, zB, zC, zD, i64_w, i32_w]
              rfl
             refine one_ (i := 0) (N := some 33) #[true, true, true, true, false, true, true, true, true, false, false] rfl rfl (one_of HT_.out (by kernel_rfl)) (by decide) (fun K hK => ?_)
             refine Kd.R_lit_step (Kd.int .i64) _ 3 ?hg (N := 33) ?hd (xs := ([] : List Int)) (inner := []) (ok := fun _ => True) (okp := fun _ => True) ?hr ?hp (fun _ hk => hk) trivial (Below.refl _ _) (Nat.le_refl _) (by simp) ?_; (case hd => rfl); (case hg => rfl); (case hr => first | (go_simp; done) | (go_simp; rfl)); (case hp => exact (Reps.none _ _))
             intro v332 w39 ho40 hb hg_ hnew_
             clear hg_ hnew_
             (first | rw [← Ny331.out] at ho40 | (simp only [Int.reduceToNat] at ho40; rw [← Ny331.out] at ho40))
             have n0_ := zA (Kd.R_elder' (bC_ HO_5) (Kd.R_base ho40) hb)
             have n1_ := zA (Kd.R_lower (Kd.R_new' ho40 (Kd.R_lt (bC_ HO_5))) (zT (bB_ HB)))
             have n2_ := zA (zU (g := gb313) (o := .cells #[.int .i64 a0_0, .slice A0_1 l0_1.length c0_1] 25 (0, 0)) (bA_ BK313) hb)
             have n3_ := zA (Kd.C_below (by repeat (first | (with_reducible exact HR337.out) | (with_reducible refine zI ?_ _) | (with_reducible refine zH ?_ _) | (with_reducible refine zJ ?_) | exact HR337.out)) hb)
             have n4_ := zA (Kd.C_below (by repeat (first | (with_reducible exact HR344.out) | (with_reducible refine zI ?_ _) | (with_reducible refine zH ?_ _) | (with_reducible refine zJ ?_) | exact HR344.out)) hb)
             have n5_ := zA (below_step (bB_ HB) hb)
             clear HO_5
             clear BK313
             clear HR337
             clear HR344
             clear HB
             have HO_5 := n0_
             have HO333 := n1_
             have BK313 := n2_
             have HR337 := n3_
             have HR344 := n4_
             have HB := n5_
             clear n0_ n1_ n2_ n3_ n4_ n5_
             clear hb ho40
             refine hK.out _ _ trivial (fun hHeld => ?_)
             clear hK K
             refine norm_ (a' := ?_) ?_ ?_
             rotate_left
             ·show Act.put _ (some 33) _ = _
              simp only [Act.put, zB, zC, zD, i64_w, i32_w]
              rfl
             refine one_ (i := 4) (N := some 37) #[true, true, true, true, true, true, true, true, true, false, false] rfl rfl (one_of HT_.out (by kernel_rfl)) (by decide) (fun K hK => ?_)
             refine Kd.R_append_rows_step (Kd.int .i64) (w0 := w) w.heap.size (by rfl) (.tmp 33) (.tmp 36) 28 3 (.int .i64 0) 8 rfl Try.underlying28 info3 rfl (by decide) (by omega) v332 y331 y334 _ _ _ (fun k_ => some k_ ≠ (.slice Ao37 x5_1.length co37 : Value).ownBlock) (fun _ => False) rfl rfl ?aO ?aR (fun _ _ h => h) (fun _ h => h.elim) ?aF ?aB ?aS ?aL ?_
             (case aR => repeat (first | exact (by repeat (first | (with_reducible exact HR337.out) | (with_reducible refine zI ?_ _) | (with_reducible refine zH ?_ _) | (with_reducible refine zJ ?_) | exact HR337.out)) | (with_reducible refine zI ?_ _) | (with_reducible refine zH ?_ _) | (with_reducible refine zJ ?_)))
             (case aB => exact (bB_ HB))
             (case aF => exact (fun k_ hk => Kd.fresh' (Kd.R_lt (bC_ HO_5)) k_ hk))
             (case aO => exact (by (with_reducible repeat (first | apply zF | apply zE | apply zG)); exact Kd.R_mono HO333.out (fun _ hk => hk.2)))
             (case aS => exact (zT (bB_ HB)))
             (case aL => have := LMc28.out; omega)
             intro v339 w41 ho hb hg hat
             rw [← Ny338.out] at ho
             have n0_ := zA (Kd.R_after (ok := (fun _ => True)) (bC_ HO_5) hg hat)
             have n1_ := zA (blk_grown (g := gb313) (o := .cells #[.int .i64 a0_0, .slice A0_1 l0_1.length c0_1] 25 (0, 0)) (bA_ BK313) hg (Kd.R_ne HO333.out BK313.out (by decide)))
             have n2_ := zA (hb)
             have n3_ := zA ((show Kd.C (Kd.int .i64) w41 Ao37 y334.length y334 from by rw [Ny334.out]; exact Kd.C_take (m := (x8_1 : Int).toNat) ((zK (Kd.R_after (ok := (fun _ => True)) (bC_ HO_5) hg hat)).2.2) KL36.out))
             have n4_ := zA ((show Kd.C (Kd.int .i64) w41 A38 y341.length y341 from by rw [Ny341.out, KA38.out]; exact Kd.C_drop (m := ((ji29) : Int).toNat) (c := co37) ((zK (Kd.R_after (ok := (fun _ => True)) (bC_ HO_5) hg hat)).2.2) KL38.out ((zK (Kd.R_after (ok := (fun _ => True)) (bC_ HO_5) hg hat)).2.1)))
             have n5_ := zA (ho)
             clear HO_5
             clear BK313
             clear HB
             clear HR337
             clear HR344
             clear HO333
             have HO_5 := n0_
             have BK313 := n1_
             have HB := n2_
             have HR337 := n3_
             have HR344 := n4_
             have HO340 := n5_
             clear n0_ n1_ n2_ n3_ n4_ n5_
             clear ho hb hg hat
             refine hK.out _ _ trivial (fun hHeld => ?_)
             clear hK K
             refine norm_ (a' := ?_) ?_ ?_
             rotate_left
             ·show Act.put _ (some 37) _ = _
              simp only [Act.put, zB, zC, zD, i64_w, i32_w]
              rfl
             refine one_ (i := 9) (N := some 42) #[true, true, true, true, true, true, true, true, true, true, false] rfl rfl (one_of HT_.out (by kernel_rfl)) (by decide) (fun K hK => ?_)
             refine Kd.R_append_rows_step (Kd.int .i64) (w0 := w) w.heap.size (by rfl) (.tmp 37) (.tmp 41) 28 3 (.int .i64 0) 8 rfl Try.underlying28 info3 rfl (by decide) (by omega) v339 y338 y341 _ _ _ (fun k_ => some k_ ≠ (.slice Ao37 x5_1.length co37 : Value).ownBlock) (fun _ => False) rfl rfl ?aO ?aR (fun _ _ h => h) (fun _ h => h.elim) ?aF ?aB ?aS ?aL ?_
             (case aR => repeat (first | exact (by repeat (first | (with_reducible exact HR344.out) | (with_reducible refine zI ?_ _) | (with_reducible refine zH ?_ _) | (with_reducible refine zJ ?_) | exact HR344.out)) | (with_reducible refine zI ?_ _) | (with_reducible refine zH ?_ _) | (with_reducible refine zJ ?_)))
             (case aB => exact (bB_ HB))
             (case aF => exact (fun k_ hk => Kd.fresh' (Kd.R_lt (bC_ HO_5)) k_ hk))
             (case aO => exact (bC_ HO340))
             (case aS => exact (zT (bB_ HB)))
             (case aL => have := LMc32.out; omega)
             intro v346 w42 ho hb hg hat
             rw [← Ny345.out] at ho
             have n0_ := zA (Kd.R_after (ok := (fun _ => True)) (bC_ HO_5) hg hat)
             have n1_ := zA (blk_grown (g := gb313) (o := .cells #[.int .i64 a0_0, .slice A0_1 l0_1.length c0_1] 25 (0, 0)) (bA_ BK313) hg (Kd.R_ne HO340.out BK313.out (by decide)))
             have n2_ := zA (hb)
             have n3_ := zA ((show Kd.C (Kd.int .i64) w42 Ao37 y334.length y334 from by rw [Ny334.out]; exact Kd.C_take (m := (x8_1 : Int).toNat) ((zK (Kd.R_after (ok := (fun _ => True)) (bC_ HO_5) hg hat)).2.2) KL36.out))
             have n4_ := zA ((show Kd.C (Kd.int .i64) w42 A38 y341.length y341 from by rw [Ny341.out, KA38.out]; exact Kd.C_drop (m := ((ji29) : Int).toNat) (c := co37) ((zK (Kd.R_after (ok := (fun _ => True)) (bC_ HO_5) hg hat)).2.2) KL38.out ((zK (Kd.R_after (ok := (fun _ => True)) (bC_ HO_5) hg hat)).2.1)))
             have n5_ := zA (ho)
             clear HO_5
             clear BK313
             clear HB
             clear HR337
             clear HR344
             clear HO340
             have HO_5 := n0_
             have BK313 := n1_
             have HB := n2_
             have HR337 := n3_
             have HR344 := n4_
             have HO347 := n5_
             clear n0_ n1_ n2_ n3_ n4_ n5_
             clear ho hb hg hat
             refine hK.out _ _ trivial (fun hHeld => ?_)
             clear hK K
             refine norm_ (a' := ?_) ?_ ?_
             rotate_left
             ·show Act.put _ (some 42) _ = _
              simp only [Act.put, zB, zC, zD, i64_w, i32_w]
              rfl
             refine pure_ (i := 10) (N := some 9) (v := ?_) (a' := ?_) #[true, true, true, true, true, true, true, true, true, true, true] rfl rfl (any_of HT_.out (by kernel_rfl)) (fun _ _ _ h => h) (Or.inl ⟨by rfl, ?_⟩) ?_ ?_
             rotate_left
             ·intro w'
              go_simp
              with_reducible rfl
             rotate_left
             ·simp only [Act.put, zB, zC, zD, i64_w, i32_w]
              rfl
             refine done_ (done_of HT_.out (by kernel_rfl)) ?_
             have hcz43_0 : w42.cell? ⟨gb313, 0, none⟩ = some (.int .i64 a0_0) := (blk_cell BK313.out 0).trans rfl
             have hcz43_1 : w42.cell? ⟨gb313, 1, none⟩ = some (.slice A0_1 l0_1.length c0_1) := (blk_cell BK313.out 1).trans rfl
             have hfz43_0 := blk_frozen BK313.out 0
             have hfz43_1 := blk_frozen BK313.out 1
             obtain ⟨Ao44, co44, eo44⟩ := Kd.R_slice HO347.out
             subst eo44
             try go_wp2_with (first | ((with_reducible refine gate_callee (f := 35) rfl ?_); refine goesL_ (some 46) rfl rfl Try.func35 (by kernel_rfl) rfl #[.agg #[.int .i64 a0_0, .slice A0_1 l0_1.length c0_1], .slice Ao44 y345.length co44] rfl (by (try simp only [List.map_toArray, List.map_cons, List.map_nil]); first | done | rfl | (simp only [List.length_drop, List.length_take]; rfl)) ?_; (with_reducible refine (spec_l04Keeps.calls k1 a0_0 _ _ l0_1 _ _ y345 t348 true _ ?side1 ?side2 ?side3 ?side4 A33.out).mono ?_); (case side1 => repeat (first | exact (Kd.C_below HR0_1.out HB.out) | (with_reducible refine zI ?_ _) | (with_reducible refine zH ?_ _) | (with_reducible refine zJ ?_))); (case side2 => exact HC0_1.out); (case side3 => repeat (first | exact (zK HO347.out).2.2 | (with_reducible refine zI ?_ _) | (with_reducible refine zH ?_ _) | (with_reducible refine zJ ?_))); (case side4 => exact (zK HO347.out).2.1); rintro e w45 ⟨v349, rfl, ho0, hb⟩; refine ⟨_, rfl, ?_⟩; have n0_ := zA (zL (bC_ HO_5) hb); have n1_ := zA (zL (bC_ HO347) hb); have n2_ := zA (Kd.R_lower ho0 (zT (bB_ HB))); have n3_ := zA (zU (g := gb313) (o := .cells #[.int .i64 a0_0, .slice A0_1 l0_1.length c0_1] 25 (0, 0)) (bA_ BK313) hb); have n4_ := zA (Kd.C_below (by repeat (first | (with_reducible exact HR337.out) | (with_reducible refine zI ?_ _) | (with_reducible refine zH ?_ _) | (with_reducible refine zJ ?_) | exact HR337.out)) hb); have n5_ := zA (Kd.C_below (by repeat (first | (with_reducible exact HR344.out) | (with_reducible refine zI ?_ _) | (with_reducible refine zH ?_ _) | (with_reducible refine zJ ?_) | exact HR344.out)) hb); have n6_ := zA (below_step (bB_ HB) hb); clear HO_5; clear HO347; clear BK313; clear HR337; clear HR344; clear HB; have HO_5 := n0_; have HO347 := n1_; have HO350 := n2_; have BK313 := n3_; have HR337 := n4_; have HR344 := n5_; have HB := n6_; clear n0_ n1_ n2_ n3_ n4_ n5_ n6_; (try clear hb); (try clear hb2); (try clear hk); (try clear hi); (try clear ho0)))
             go_roundg k1
             case measure => have := HK1.out; omega
             case rel => exact ⟨(x5_1), (wrap64 (x8_1 - 1)), (by first | rfl | (simp; done) | (simp [*]; done)), H', ⟨by have := HK1.out; omega⟩, ⟨by (with_reducible repeat (first | apply zF | apply zE | apply zG)); exact Kd.R_mono HO_5.out (fun _ hk => trivial)⟩, ⟨bA_ BK313⟩, ⟨bB_ HB⟩⟩
            ·replace c34 := Bool.eq_false_iff.mpr c34
             subst c34
             have H1 : (spec_SketchSolve.l0 k1 y345 (wrap64 (x8_1 - 1)) a0_0 l0_1) = some (r1, r2, r3) := by rw [if_neg (show ¬ (false = true) by decide)] at H; exact H
             clear H
             have H := H1
             clear H1
             have H' := zA H
             clear H
             try go_wp2
             have n0_ := zA (zG HO_5.out)
             have n1_ := zA (blk_drew BK313.out)
             have n2_ := zA (below_drew1 HB.out)
             clear HO_5
             clear BK313
             clear HB
             have HO_5 := n0_
             have BK313 := n1_
             have HB := n2_
             clear n0_ n1_ n2_
             obtain ⟨Ao48, co48, eo48⟩ := Kd.R_slice HO_5.out
             (first | subst eo48 | (injection eo48 with f1_ f2_ f3_; have f4_ := f1_.symm; have f5_ := f3_.symm; clear f1_ f2_ f3_; subst f4_; subst f5_))
             have q47 : (x8_1 : Int) ≤ ((x5_1.length : Int) : Int) := of_decide_eq_true (by first | (with_reducible assumption) | assumption)
             obtain ⟨i047, hi047, _, hsz47, _⟩ := info_parts info3
             have hroom47 : x5_1.length ≤ co48 := (zK HO_5.out).2.1
             have hC47 : Kd.C (Kd.int .i64) _ Ao48 x5_1.length x5_1 := (zK HO_5.out).2.2
             have hcut47 := cut_to (P := Try.prog) 28 3 .i64 Try.underlying28 hi047 Ao48 x5_1.length co48 x8_1 (of_decide_eq_true (by first | (with_reducible assumption) | assumption)) q47 hroom47
             have hr47 := Kd.C_take (m := (x8_1 : Int).toNat) hC47 (by omega)
             have hy47 : y334.length = (x8_1 : Int).toNat := (by rw [Ny334.out, List.length_take]; omega)
             rw [← Ny334.out] at hr47
             rw [← hy47] at hcut47
             have HR337 := zA hr47
             have HC337 := zA (show y334.length ≤ co48 from by omega)
             clear hr47 hC47 hroom47 hi047 hsz47
             have KY47 := zA hy47
             clear hy47
             have KL47 := zA (show (x8_1 : Int).toNat ≤ x5_1.length from by omega)
             replace q47 := eq_true q47
             have q49 : ((ji29) : Int) ≤ ((x5_1.length : Int) : Int) := of_decide_eq_true (by first | (with_reducible assumption) | assumption)
             obtain ⟨i049, hi049, _, hsz49, _⟩ := info_parts info3
             have hroom49 : x5_1.length ≤ co48 := (zK HO_5.out).2.1
             have hC49 : Kd.C (Kd.int .i64) _ Ao48 x5_1.length x5_1 := (zK HO_5.out).2.2
             have q049 : (0 : Int) ≤ ((ji29) : Int) := of_decide_eq_true (by first | (with_reducible assumption) | assumption)
             have hcut49 := cut_from (P := Try.prog) 28 3 .i64 Try.underlying28 hi049 1 hsz49 Ao48 x5_1.length co48 (ji29) q049 q49
             have hr49 := Kd.C_drop (m := ((ji29) : Int).toNat) (c := co48) hC49 (by omega) hroom49
             obtain ⟨A49, hA49⟩ : ∃ A1, A1 = (if co48 = ((ji29) : Int).toNat then Ao48 else (Ao48 : Option Addr).map (·.add (((ji29) : Int).toNat * 1))) := ⟨_, rfl⟩
             obtain ⟨c49, hc49⟩ : ∃ c1, c1 = co48 - ((ji29) : Int).toNat := ⟨_, rfl⟩
             have hy49 : y341.length = x5_1.length - ((ji29) : Int).toNat := (by rw [Ny341.out, List.length_drop] <;> omega)
             rw [show (x5_1).drop ((ji29) : Int).toNat = y341 from Ny341.out.symm] at hr49
             replace hr49 : Kd.C (Kd.int .i64) _ A49 y341.length y341 := (by rw [hA49]; exact hr49)
             rw [← hy49, ← hA49, ← hc49] at hcut49
             have HR344 := zA hr49
             have HC344 := zA (show y341.length ≤ c49 from by rw [hy49, hc49]; exact Nat.sub_le_sub_right hroom49 _)
             clear hr49 hC49 hroom49 hi049 hsz49 hc49
             have KY49 := zA hy49
             have KA49 := zA hA49
             clear hy49 hA49
             have KL49 := zA (show ((ji29) : Int).toNat ≤ x5_1.length from by omega)
             replace q49 := eq_true q49
             refine start_ (n := 11) (S := fun w' => True) (ds := []) #[false, false, false, false, false, false, false, false, false, false, false] (by kernel_rfl) rfl rfl trivial (fun hHeld => ?_); refine with_tabW spec_SketchSolve.tab10 spec_SketchSolve.bits10 (fun HT_ HW_ => ?_)
             generalize wr.drew = w46 at HO_5 BK313 HB HR337 HR344 hHeld ⊢
             refine pure_ (i := 1) (N := some 34) (v := ?_) (a' := ?_) #[false, true, false, false, false, false, false, false, false, false, false] rfl rfl (any_of HT_.out (by kernel_rfl)) (fun _ _ _ h => h) (Or.inl ⟨by rfl, ?_⟩) ?_ ?_
             rotate_left
             ·intro w'
              go_simp
              with_reducible rfl
             rotate_left
             ·simp only [Act.put, zB, zC, zD, i64_w, i32_w]
              rfl
             refine pure_ (i := 2) (N := some 35) (v := ?_) (a' := ?_) #[false, true, true, false, false, false, false, false, false, false, false] rfl rfl (any_of HT_.out (by kernel_rfl)) (fun _ _ _ h => h) (Or.inl ⟨by rfl, ?_⟩) ?_ ?_
             rotate_left
             ·intro w'
              go_simp
              with_reducible rfl
             rotate_left
             ·simp only [Act.put, zB, zC, zD, i64_w, i32_w]
              rfl
             refine pure_ (i := 3) (N := some 36) (v := ?_) (a' := ?_) #[false, true, true, true, false, false, false, false, false, false, false] rfl rfl (any_of HT_.out (by kernel_rfl)) (fun _ _ _ h => h) (Or.inl ⟨by rfl, ?_⟩) ?_ ?_
             rotate_left
             ·intro w'
              go_simp
              with_reducible rfl
             rotate_left
             ·simp only [Act.put, zB, zC, zD, i64_w, i32_w]
              rfl
             refine pure_ (i := 5) (N := some 38) (v := ?_) (a' := ?_) #[false, true, true, true, false, true, false, false, false, false, false] rfl rfl (any_of HT_.out (by kernel_rfl)) (fun _ _ _ h => h) (Or.inl ⟨by rfl, ?_⟩) ?_ ?_
             rotate_left
             ·intro w'
              go_simp
              with_reducible rfl
             rotate_left
             ·simp only [Act.put, zB, zC, zD, i64_w, i32_w]
              rfl
             refine pure_ (i := 6) (N := some 39) (v := ?_) (a' := ?_) #[false, true, true, true, false, true, true, false, false, false, false] rfl rfl (any_of HT_.out (by kernel_rfl)) (fun _ _ _ h => h) (Or.inl ⟨by rfl, ?_⟩) ?_ ?_
             rotate_left
             ·intro w'
              go_simp
              with_reducible rfl
             rotate_left
             ·simp only [Act.put, zB, zC, zD, i64_w, i32_w]
              rfl
             refine pure_ (i := 7) (N := some 40) (v := ?_) (a' := ?_) #[false, true, true, true, false, true, true, true, false, false, false] rfl rfl (any_of HT_.out (by kernel_rfl)) (fun _ _ _ h => h) (Or.inl ⟨by rfl, ?_⟩) ?_ ?_
             rotate_left
             ·intro w'
              go_simp
              with_reducible rfl
             rotate_left
             ·simp only [Act.put, zB, zC, zD, i64_w, i32_w]
              rfl
             refine pure_ (i := 8) (N := some 41) (v := ?_) (a' := ?_) #[false, true, true, true, false, true, true, true, true, false, false] rfl rfl (any_of HT_.out (by kernel_rfl)) (fun _ _ _ h => h) (Or.inl ⟨by rfl, ?_⟩) ?_ ?_
             rotate_left
             ·intro w'
              go_simp
              with_reducible rfl
             rotate_left
             ·simp only [Act.put, zB, zC, zD, i64_w, i32_w]
              rfl
             refine one_ (i := 0) (N := some 33) #[true, true, true, true, false, true, true, true, true, false, false] rfl rfl (one_of HT_.out (by kernel_rfl)) (by decide) (fun K hK => ?_)
             refine Kd.R_lit_step (Kd.int .i64) _ 3 ?hg (N := 33) ?hd (xs := ([] : List Int)) (inner := []) (ok := fun _ => True) (okp := fun _ => True) ?hr ?hp (fun _ hk => hk) trivial (Below.refl _ _) (Nat.le_refl _) (by simp) ?_; (case hd => rfl); (case hg => rfl); (case hr => first | (go_simp; done) | (go_simp; rfl)); (case hp => exact (Reps.none _ _))
             intro v332 w50 ho51 hb hg_ hnew_
             clear hg_ hnew_
             (first | rw [← Ny331.out] at ho51 | (simp only [Int.reduceToNat] at ho51; rw [← Ny331.out] at ho51))
             have n0_ := zA (Kd.R_elder' (bC_ HO_5) (Kd.R_base ho51) hb)
             have n1_ := zA (Kd.R_lower (Kd.R_new' ho51 (Kd.R_lt (bC_ HO_5))) (zT (bB_ HB)))
             have n2_ := zA (zU (g := gb313) (o := .cells #[.int .i64 a0_0, .slice A0_1 l0_1.length c0_1] 25 (0, 0)) (bA_ BK313) hb)
             have n3_ := zA (Kd.C_below (by repeat (first | (with_reducible exact HR337.out) | (with_reducible refine zI ?_ _) | (with_reducible refine zH ?_ _) | (with_reducible refine zJ ?_) | exact HR337.out)) hb)
             have n4_ := zA (Kd.C_below (by repeat (first | (with_reducible exact HR344.out) | (with_reducible refine zI ?_ _) | (with_reducible refine zH ?_ _) | (with_reducible refine zJ ?_) | exact HR344.out)) hb)
             have n5_ := zA (below_step (bB_ HB) hb)
             clear HO_5
             clear BK313
             clear HR337
             clear HR344
             clear HB
             have HO_5 := n0_
             have HO333 := n1_
             have BK313 := n2_
             have HR337 := n3_
             have HR344 := n4_
             have HB := n5_
             clear n0_ n1_ n2_ n3_ n4_ n5_
             clear hb ho51
             refine hK.out _ _ trivial (fun hHeld => ?_)
             clear hK K
             refine norm_ (a' := ?_) ?_ ?_
             rotate_left
             ·show Act.put _ (some 33) _ = _
              simp only [Act.put, zB, zC, zD, i64_w, i32_w]
              rfl
             refine one_ (i := 4) (N := some 37) #[true, true, true, true, true, true, true, true, true, false, false] rfl rfl (one_of HT_.out (by kernel_rfl)) (by decide) (fun K hK => ?_)
             refine Kd.R_append_rows_step (Kd.int .i64) (w0 := w) w.heap.size (by rfl) (.tmp 33) (.tmp 36) 28 3 (.int .i64 0) 8 rfl Try.underlying28 info3 rfl (by decide) (by omega) v332 y331 y334 _ _ _ (fun k_ => some k_ ≠ (.slice Ao48 x5_1.length co48 : Value).ownBlock) (fun _ => False) rfl rfl ?aO ?aR (fun _ _ h => h) (fun _ h => h.elim) ?aF ?aB ?aS ?aL ?_
             (case aR => repeat (first | exact (by repeat (first | (with_reducible exact HR337.out) | (with_reducible refine zI ?_ _) | (with_reducible refine zH ?_ _) | (with_reducible refine zJ ?_) | exact HR337.out)) | (with_reducible refine zI ?_ _) | (with_reducible refine zH ?_ _) | (with_reducible refine zJ ?_)))
             (case aB => exact (bB_ HB))
             (case aF => exact (fun k_ hk => Kd.fresh' (Kd.R_lt (bC_ HO_5)) k_ hk))
             (case aO => exact (by (with_reducible repeat (first | apply zF | apply zE | apply zG)); exact Kd.R_mono HO333.out (fun _ hk => hk.2)))
             (case aS => exact (zT (bB_ HB)))
             (case aL => have := LMc28.out; omega)
             intro v339 w52 ho hb hg hat
             rw [← Ny338.out] at ho
             have n0_ := zA (Kd.R_after (ok := (fun _ => True)) (bC_ HO_5) hg hat)
             have n1_ := zA (blk_grown (g := gb313) (o := .cells #[.int .i64 a0_0, .slice A0_1 l0_1.length c0_1] 25 (0, 0)) (bA_ BK313) hg (Kd.R_ne HO333.out BK313.out (by decide)))
             have n2_ := zA (hb)
             have n3_ := zA ((show Kd.C (Kd.int .i64) w52 Ao48 y334.length y334 from by rw [Ny334.out]; exact Kd.C_take (m := (x8_1 : Int).toNat) ((zK (Kd.R_after (ok := (fun _ => True)) (bC_ HO_5) hg hat)).2.2) KL47.out))
             have n4_ := zA ((show Kd.C (Kd.int .i64) w52 A49 y341.length y341 from by rw [Ny341.out, KA49.out]; exact Kd.C_drop (m := ((ji29) : Int).toNat) (c := co48) ((zK (Kd.R_after (ok := (fun _ => True)) (bC_ HO_5) hg hat)).2.2) KL49.out ((zK (Kd.R_after (ok := (fun _ => True)) (bC_ HO_5) hg hat)).2.1)))
             have n5_ := zA (ho)
             clear HO_5
             clear BK313
             clear HB
             clear HR337
             clear HR344
             clear HO333
             have HO_5 := n0_
             have BK313 := n1_
             have HB := n2_
             have HR337 := n3_
             have HR344 := n4_
             have HO340 := n5_
             clear n0_ n1_ n2_ n3_ n4_ n5_
             clear ho hb hg hat
             refine hK.out _ _ trivial (fun hHeld => ?_)
             clear hK K
             refine norm_ (a' := ?_) ?_ ?_
             rotate_left
             ·show Act.put _ (some 37) _ = _
              simp only [Act.put, zB, zC, zD, i64_w, i32_w]
              rfl
             refine one_ (i := 9) (N := some 42) #[true, true, true, true, true, true, true, true, true, true, false] rfl rfl (one_of HT_.out (by kernel_rfl)) (by decide) (fun K hK => ?_)
             refine Kd.R_append_rows_step (Kd.int .i64) (w0 := w) w.heap.size (by rfl) (.tmp 37) (.tmp 41) 28 3 (.int .i64 0) 8 rfl Try.underlying28 info3 rfl (by decide) (by omega) v339 y338 y341 _ _ _ (fun k_ => some k_ ≠ (.slice Ao48 x5_1.length co48 : Value).ownBlock) (fun _ => False) rfl rfl ?aO ?aR (fun _ _ h => h) (fun _ h => h.elim) ?aF ?aB ?aS ?aL ?_
             (case aR => repeat (first | exact (by repeat (first | (with_reducible exact HR344.out) | (with_reducible refine zI ?_ _) | (with_reducible refine zH ?_ _) | (with_reducible refine zJ ?_) | exact HR344.out)) | (with_reducible refine zI ?_ _) | (with_reducible refine zH ?_ _) | (with_reducible refine zJ ?_)))
             (case aB => exact (bB_ HB))
             (case aF => exact (fun k_ hk => Kd.fresh' (Kd.R_lt (bC_ HO_5)) k_ hk))
             (case aO => exact (bC_ HO340))
             (case aS => exact (zT (bB_ HB)))
             (case aL => have := LMc32.out; omega)
             intro v346 w53 ho hb hg hat
             rw [← Ny345.out] at ho
             have n0_ := zA (Kd.R_after (ok := (fun _ => True)) (bC_ HO_5) hg hat)
             have n1_ := zA (blk_grown (g := gb313) (o := .cells #[.int .i64 a0_0, .slice A0_1 l0_1.length c0_1] 25 (0, 0)) (bA_ BK313) hg (Kd.R_ne HO340.out BK313.out (by decide)))
             have n2_ := zA (hb)
             have n3_ := zA ((show Kd.C (Kd.int .i64) w53 Ao48 y334.length y334 from by rw [Ny334.out]; exact Kd.C_take (m := (x8_1 : Int).toNat) ((zK (Kd.R_after (ok := (fun _ => True)) (bC_ HO_5) hg hat)).2.2) KL47.out))
             have n4_ := zA ((show Kd.C (Kd.int .i64) w53 A49 y341.length y341 from by rw [Ny341.out, KA49.out]; exact Kd.C_drop (m := ((ji29) : Int).toNat) (c := co48) ((zK (Kd.R_after (ok := (fun _ => True)) (bC_ HO_5) hg hat)).2.2) KL49.out ((zK (Kd.R_after (ok := (fun _ => True)) (bC_ HO_5) hg hat)).2.1)))
             have n5_ := zA (ho)
             clear HO_5
             clear BK313
             clear HB
             clear HR337
             clear HR344
             clear HO340
             have HO_5 := n0_
             have BK313 := n1_
             have HB := n2_
             have HR337 := n3_
             have HR344 := n4_
             have HO347 := n5_
             clear n0_ n1_ n2_ n3_ n4_ n5_
             clear ho hb hg hat
             refine hK.out _ _ trivial (fun hHeld => ?_)
             clear hK K
             refine norm_ (a' := ?_) ?_ ?_
             rotate_left
             ·show Act.put _ (some 42) _ = _
              simp only [Act.put, zB, zC, zD, i64_w, i32_w]
              rfl
             refine pure_ (i := 10) (N := some 9) (v := ?_) (a' := ?_) #[true, true, true, true, true, true, true, true, true, true, true] rfl rfl (any_of HT_.out (by kernel_rfl)) (fun _ _ _ h => h) (Or.inl ⟨by rfl, ?_⟩) ?_ ?_
             rotate_left
             ·intro w'
              go_simp
              with_reducible rfl
             rotate_left
             ·simp only [Act.put, zB, zC, zD, i64_w, i32_w]
              rfl
             refine done_ (done_of HT_.out (by kernel_rfl)) ?_
             have hcz54_0 : w53.cell? ⟨gb313, 0, none⟩ = some (.int .i64 a0_0) := (blk_cell BK313.out 0).trans rfl
             have hcz54_1 : w53.cell? ⟨gb313, 1, none⟩ = some (.slice A0_1 l0_1.length c0_1) := (blk_cell BK313.out 1).trans rfl
             have hfz54_0 := blk_frozen BK313.out 0
             have hfz54_1 := blk_frozen BK313.out 1
             obtain ⟨Ao55, co55, eo55⟩ := Kd.R_slice HO347.out
             subst eo55
             try go_wp2_with (first | ((with_reducible refine gate_callee (f := 35) rfl ?_); refine goesL_ (some 46) rfl rfl Try.func35 (by kernel_rfl) rfl #[.agg #[.int .i64 a0_0, .slice A0_1 l0_1.length c0_1], .slice Ao55 y345.length co55] rfl (by (try simp only [List.map_toArray, List.map_cons, List.map_nil]); first | done | rfl | (simp only [List.length_drop, List.length_take]; rfl)) ?_; (with_reducible refine (spec_l04Keeps.calls k1 a0_0 _ _ l0_1 _ _ y345 t348 false _ ?side1 ?side2 ?side3 ?side4 A33.out).mono ?_); (case side1 => repeat (first | exact (Kd.C_below HR0_1.out HB.out) | (with_reducible refine zI ?_ _) | (with_reducible refine zH ?_ _) | (with_reducible refine zJ ?_))); (case side2 => exact HC0_1.out); (case side3 => repeat (first | exact (zK HO347.out).2.2 | (with_reducible refine zI ?_ _) | (with_reducible refine zH ?_ _) | (with_reducible refine zJ ?_))); (case side4 => exact (zK HO347.out).2.1); rintro e w56 ⟨v349, rfl, ho0, hb⟩; refine ⟨_, rfl, ?_⟩; have n0_ := zA (zL (bC_ HO_5) hb); have n1_ := zA (zL (bC_ HO347) hb); have n2_ := zA (Kd.R_lower ho0 (zT (bB_ HB))); have n3_ := zA (zU (g := gb313) (o := .cells #[.int .i64 a0_0, .slice A0_1 l0_1.length c0_1] 25 (0, 0)) (bA_ BK313) hb); have n4_ := zA (Kd.C_below (by repeat (first | (with_reducible exact HR337.out) | (with_reducible refine zI ?_ _) | (with_reducible refine zH ?_ _) | (with_reducible refine zJ ?_) | exact HR337.out)) hb); have n5_ := zA (Kd.C_below (by repeat (first | (with_reducible exact HR344.out) | (with_reducible refine zI ?_ _) | (with_reducible refine zH ?_ _) | (with_reducible refine zJ ?_) | exact HR344.out)) hb); have n6_ := zA (below_step (bB_ HB) hb); clear HO_5; clear HO347; clear BK313; clear HR337; clear HR344; clear HB; have HO_5 := n0_; have HO347 := n1_; have HO350 := n2_; have BK313 := n3_; have HR337 := n4_; have HR344 := n5_; have HB := n6_; clear n0_ n1_ n2_ n3_ n4_ n5_ n6_; (try clear hb); (try clear hb2); (try clear hk); (try clear hi); (try clear ho0)))
             go_roundg k1
             case measure => have := HK1.out; omega
             case rel => exact ⟨(y345), (wrap64 (x8_1 - 1)), (by first | rfl | (simp; done) | (simp [*]; done)), H', ⟨by have := HK1.out; omega⟩, ⟨by (with_reducible repeat (first | apply zF | apply zE | apply zG)); exact Kd.R_mono HO347.out (fun _ hk => trivial)⟩, ⟨bA_ BK313⟩, ⟨bB_ HB⟩⟩
           ·rw [if_neg c32] at H
            exact absurd H (by simp)
          ·rw [if_neg c31] at H
           exact absurd H (by simp)
         ·rw [if_neg c30] at H
          exact absurd H (by simp)
        ·rw [if_neg c28] at H
         exact absurd H (by simp)
       ·rw [if_neg c27] at H
        exact absurd H (by simp)
      ·rw [if_neg c26] at H
       exact absurd H (by simp)
     ·rw [if_neg c25] at H
      have c25b0 : decide (0 ≤ x8_1) = false := decide_eq_false c25
      clear c25
      obtain ⟨y352, hy352⟩ : ∃ y_ : List (S48), y_ = (([] : List (S48))) := ⟨_, rfl⟩
      replace H : (some (y352, 15, x5_1)) = some (r1, r2, r3) := by first | (rw [hy352]; with_reducible exact H) | (have H2_ := (Option.bind_some _ _).symm.trans H; rw [hy352]; with_reducible exact H2_) | (have H2_ := (Option.bind_some _ _).symm.trans H; with_reducible exact H2_) | with_reducible exact H | (rw [hy352]; exact H) | exact H
      have Ny352 := zA hy352
      clear hy352
      simp only [Option.some.injEq, Prod.mk.injEq] at H
      obtain ⟨rfl, rfl, rfl⟩ := H
      go_wp2_with (first | ((with_reducible refine gate_dst (N := 52) rfl ?_); refine Kd.R_lit k48 _ 48 ?hg (N := 52) ?hd (xs := ([] : List (S48))) (inner := []) (ok := fun _ => True) (okp := fun _ => True) ?hr ?hp (fun _ hk => hk) trivial (Below.refl _ _) (Nat.le_refl _) (by simp) ?_; (case hd => rfl); (case hg => rfl); (case hr => first | (go_simp; done) | (go_simp; rfl)); (case hp => exact (Reps.none _ _)); intro v353 w57 ho58 hb hg_ hnew_; clear hg_ hnew_; (first | rw [← Ny352.out] at ho58 | (simp only [Int.reduceToNat] at ho58; rw [← Ny352.out] at ho58)); have n0_ := zA (zL (bC_ HO_5) hb); have n1_ := zA (Kd.R_lower ho58 (zT (bB_ HB))); have n2_ := zA (zU (g := gb313) (o := .cells #[.int .i64 a0_0, .slice A0_1 l0_1.length c0_1] 25 (0, 0)) (bA_ BK313) hb); have n3_ := zA (below_step (bB_ HB) hb); clear HO_5; clear BK313; clear HB; have HO_5 := n0_; have HO354 := n1_; have BK313 := n2_; have HB := n3_; clear n0_ n1_ n2_ n3_; clear hb ho58))
      go_ret3
      exact ⟨_, _, by first | rfl | (simp [errW_none, errW_some] <;> rfl) | (simp [*, errW_none, errW_some] <;> rfl), bC_ HO354, bC_ HO_5, bB_ HB⟩
 ·replace c3 := Bool.eq_false_iff.mpr c3
  subst c3
  have H1 : (some ((([] : List (S48))), 1, (([] : List Int)))) = some (r1, r2, r3) := by rw [if_neg (show ¬ (false = true) by decide)] at H; exact H
  clear H
  have H := H1
  clear H1
  obtain ⟨y315, hy315⟩ : ∃ y_ : List (S48), y_ = (([] : List (S48))) := ⟨_, rfl⟩
  replace H : (some (y315, 1, (([] : List Int)))) = some (r1, r2, r3) := by first | (rw [hy315]; with_reducible exact H) | (have H2_ := (Option.bind_some _ _).symm.trans H; rw [hy315]; with_reducible exact H2_) | (have H2_ := (Option.bind_some _ _).symm.trans H; with_reducible exact H2_) | with_reducible exact H | (rw [hy315]; exact H) | exact H
  have Ny315 := zA hy315
  clear hy315
  obtain ⟨y318, hy318⟩ : ∃ y_ : List Int, y_ = (([] : List Int)) := ⟨_, rfl⟩
  replace H : (some (y315, 1, y318)) = some (r1, r2, r3) := by first | (rw [hy318]; with_reducible exact H) | (have H2_ := (Option.bind_some _ _).symm.trans H; rw [hy318]; with_reducible exact H2_) | (have H2_ := (Option.bind_some _ _).symm.trans H; with_reducible exact H2_) | with_reducible exact H | (rw [hy318]; exact H) | exact H
  have Ny318 := zA hy318
  clear hy318
  simp only [Option.some.injEq, Prod.mk.injEq] at H
  obtain ⟨rfl, rfl, rfl⟩ := H
  go_enter Try.func10, Try.ntmps10
  go_wp2_with (first | ((with_reducible refine gate_dst (N := 1) rfl ?_); refine box_event ?hg (N := 1) ?hd (cs := #[.int .i64 a0_0, .slice A0_1 l0_1.length c0_1]) (t := 25) ?hr ?_; (case hd => rfl); (case hg => rfl); (case hr => first | (go_simp; done) | (go_simp; rfl)); intro gb313 hg w59 hbox hb; have n0_ := zA (below_step (bB_ HB) hb); have n1_ := zA (hbox); have n2_ := zA ((by rw [hg]; exact (zT (bB_ HB)) : w.heap.size ≤ gb313)); have n3_ := zA ((by rw [hg]; exact (zT (bB_ HB)) : w.heap.size ≤ gb313)); clear HB; have HB := n0_; have BK313 := n1_; have GW313 := n2_; have GE313 := n3_; clear n0_ n1_ n2_ n3_; clear hb hbox hg; have hcz60_0 : w59.cell? ⟨gb313, 0, none⟩ = some (.int .i64 a0_0) := (blk_cell BK313.out 0).trans rfl; have hcz60_1 : w59.cell? ⟨gb313, 1, none⟩ = some (.slice A0_1 l0_1.length c0_1) := (blk_cell BK313.out 1).trans rfl; have hfz60_0 := blk_frozen BK313.out 0; have hfz60_1 := blk_frozen BK313.out 1) | ((with_reducible refine gate_callee (f := 16) rfl ?_); refine goesL_ (some 11) rfl rfl Try.func16 (by kernel_rfl) rfl #[.agg #[.int .i64 a0_0, .slice A0_1 l0_1.length c0_1]] rfl (by (try simp only [List.map_toArray, List.map_cons, List.map_nil]); first | done | rfl | (simp only [List.length_drop, List.length_take]; rfl)) ?_; (with_reducible refine (spec_SketchOK.calls k a0_0 _ _ l0_1 false _ ?side1 ?side2 A2.out).mono ?_); (case side1 => repeat (first | exact (Kd.C_below HR0_1.out HB.out) | (with_reducible refine zI ?_ _) | (with_reducible refine zH ?_ _) | (with_reducible refine zJ ?_))); (case side2 => exact HC0_1.out); rintro e w61 ⟨rfl, hb⟩; refine ⟨_, rfl, ?_⟩; have n0_ := zA (zU (g := gb313) (o := .cells #[.int .i64 a0_0, .slice A0_1 l0_1.length c0_1] 25 (0, 0)) (bA_ BK313) hb); have n1_ := zA (below_step (bB_ HB) hb); clear BK313; clear HB; have BK313 := n0_; have HB := n1_; clear n0_ n1_; (try clear hb); (try clear hb2); (try clear hk); (try clear hi)) | ((with_reducible refine gate_dst (N := 13) rfl ?_); refine Kd.R_lit k48 _ 48 ?hg (N := 13) ?hd (xs := ([] : List (S48))) (inner := []) (ok := fun _ => True) (okp := fun _ => True) ?hr ?hp (fun _ hk => hk) trivial (Below.refl _ _) (Nat.le_refl _) (by simp) ?_; (case hd => rfl); (case hg => rfl); (case hr => first | (go_simp; done) | (go_simp; rfl)); (case hp => exact (Reps.none _ _)); intro v316 w62 ho63 hb hg_ hnew_; clear hg_ hnew_; (first | rw [← Ny315.out] at ho63 | (simp only [Int.reduceToNat] at ho63; rw [← Ny315.out] at ho63)); have n0_ := zA (Kd.R_lower ho63 (zT (bB_ HB))); have n1_ := zA (zU (g := gb313) (o := .cells #[.int .i64 a0_0, .slice A0_1 l0_1.length c0_1] 25 (0, 0)) (bA_ BK313) hb); have n2_ := zA (below_step (bB_ HB) hb); clear BK313; clear HB; have HO317 := n0_; have BK313 := n1_; have HB := n2_; clear n0_ n1_ n2_; clear hb ho63) | ((with_reducible refine gate_dst (N := 14) rfl ?_); refine Kd.R_lit (Kd.int .i64) _ 3 ?hg (N := 14) ?hd (xs := ([] : List Int)) (inner := []) (ok := fun _ => True) (okp := fun _ => True) ?hr ?hp (fun _ hk => hk) trivial (Below.refl _ _) (Nat.le_refl _) (by simp) ?_; (case hd => rfl); (case hg => rfl); (case hr => first | (go_simp; done) | (go_simp; rfl)); (case hp => exact (Reps.none _ _)); intro v319 w64 ho65 hb hg_ hnew_; clear hg_ hnew_; (first | rw [← Ny318.out] at ho65 | (simp only [Int.reduceToNat] at ho65; rw [← Ny318.out] at ho65)); have n0_ := zA (zL (bC_ HO317) hb); have n1_ := zA (Kd.R_lower ho65 (zT (bB_ HB))); have n2_ := zA (zU (g := gb313) (o := .cells #[.int .i64 a0_0, .slice A0_1 l0_1.length c0_1] 25 (0, 0)) (bA_ BK313) hb); have n3_ := zA (below_step (bB_ HB) hb); clear HO317; clear BK313; clear HB; have HO317 := n0_; have HO320 := n1_; have BK313 := n2_; have HB := n3_; clear n0_ n1_ n2_ n3_; clear hb ho65))
  go_ret3
  exact ⟨_, _, by first | rfl | (simp [errW_none, errW_some] <;> rfl) | (simp [*, errW_none, errW_some] <;> rfl), bC_ HO317, bC_ HO320, bB_ HB⟩

end Go.Proofs.Ytnbkdfnlggmopaa.PFnExactSketchMove
