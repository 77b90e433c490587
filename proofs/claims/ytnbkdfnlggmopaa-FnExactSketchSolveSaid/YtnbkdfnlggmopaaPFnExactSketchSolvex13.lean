/- Written for this claim by a program of this session: the functions that the law reaches, each with its contract. -/
import Derived.Test.YtnbkdfnlggmopaaPFnExactSketchSolvex0
import Derived.Test.YtnbkdfnlggmopaaPFnExactSketchSolvex4
import Derived.Test.YtnbkdfnlggmopaaPFnExactSketchSolvex9
import Derived.Test.YtnbkdfnlggmopaaPFnExactSketchSolvex10
import Derived.Test.YtnbkdfnlggmopaaPFnExactSketchSolvex11
import Derived.Test.YtnbkdfnlggmopaaPFnExactSketchSolvex12
namespace Go.Proofs.Ytnbkdfnlggmopaa.PFnExactSketchSolve
open Go.RowKit Go.Proofs.YtnbkdfnlggmopaaW.PrintWords Go.Proofs.YtnbkdfnlggmopaaW.PrintLast Go.Proofs.YtnbkdfnlggmopaaW.PrintMore
open Go.Proofs.YtnbkdfnlggmopaaW.PrintWords.Aside0 renaming mk → zA
open List renaming setIfInBounds_toArray → zB, set_cons_zero → zC, set_cons_succ → zD
open Go.Proofs.YtnbkdfnlggmopaaW.PrintWords.Kd renaming R_drewN → zE, R_alloc → zF, R_drew → zG, C_drewN → zH, C_alloc → zI, C_drew → zJ, R_reads' → zK, R_below → zL
open Go.Proofs.YtnbkdfnlggmopaaW.PrintWords renaming blk_drewN → zM, blk_drew → zN, blk_alloc → zO, pw_below_drewN → zP, below_drew1 → zQ, below_alloc → zR, below_set → zS, below_size → zT, blk_below → zU
attribute [local go_sem] i64_w max2_int min2_int max_two min_two max_three min_three max_four min_four
set_option linter.unusedVariables false
set_option linter.unusedSimpArgs false

mutual
def laws_FnExactSketchSolve.j0 : Nat → List (S48) → Int → List Int → List (S48) → Int → List Int → Bool → Int → List (S85) → Int → List (S35) → Option (Bool)
 | 0, _, _, _, _, _, _, _, _, _, _, _ => none
 | k + 1, x4, x5, x6, x8, x9, x10, x51, x357000, x357001, x374000, x374001 => if x51 = true then (some false) else ((laws_toSketch.f k x357000 x357001).bind fun bt383 => ((laws_eqSketch.f k x374000 x374001 bt383.1 bt383.2).bind fun t387 => (if t387 = true then ((laws_markSketch.f k x374000 x374001 1).bind fun bt388 => (if bt388.1 < 0 then (laws_FnExactSketchSolve.j1 k x4 x5 x6 x8 x10 true x357000 x357001) else ((laws_eqPointS.f k x8 x4).bind fun t390 => (if t390 = true then (if x9 = x5 then ((laws_eqIntS.f k x10 x6).bind fun t391 => (laws_FnExactSketchSolve.j1 k x4 x5 x6 x8 x10 (!t391) x357000 x357001)) else (laws_FnExactSketchSolve.j1 k x4 x5 x6 x8 x10 true x357000 x357001)) else (laws_FnExactSketchSolve.j1 k x4 x5 x6 x8 x10 true x357000 x357001))))) else (some false))))
def laws_FnExactSketchSolve.j1 : Nat → List (S48) → Int → List Int → List (S48) → List Int → Bool → Int → List (S85) → Option (Bool)
 | 0, _, _, _, _, _, _, _, _ => none
 | k + 1, x4, x5, x6, x8, x10, x78, x357000, x357001 => if x78 = true then (some false) else ((laws_markPointS.f k x8 1).bind fun bt392 => ((laws_markIntS.f k x10 bt392.1).bind fun bt394 => ((laws_heldPointS.f k bt392.2 1).bind fun t396 => (if t396 < 0 then (some false) else ((laws_heldIntS.f k bt394.2 t396).bind fun t397 => (if t397 < 0 then (some false) else (if t397 = bt394.1 then ((laws_toSketch.f k x357000 x357001).bind fun bt398 => ((impl_SketchSolve.f k bt398.1 bt398.2).bind fun bt402 => ((laws_eqPointS.f k bt402.1 x4).bind fun t409 => (if t409 = true then (if bt402.2.1 = x5 then ((laws_eqIntS.f k bt402.2.2 x6).bind fun t410 => (laws_FnExactSketchSolve.j2 k bt392.2 bt394.2 bt394.1 (!t410))) else (laws_FnExactSketchSolve.j2 k bt392.2 bt394.2 bt394.1 true)) else (laws_FnExactSketchSolve.j2 k bt392.2 bt394.2 bt394.1 true))))) else (some false))))))))
def laws_FnExactSketchSolve.j2 : Nat → List (S48) → List Int → Int → Bool → Option (Bool)
 | 0, _, _, _, _ => none
 | k + 1, x8, x10, x12, x119 => if x119 = true then (some false) else ((laws_heldPointS.f k x8 1).bind fun t411 => (if t411 < 0 then (some false) else ((laws_heldIntS.f k x10 t411).bind fun t412 => (if t412 < 0 then (some false) else (if t412 = x12 then (some true) else (some false))))))
end
def laws_FnExactSketchSolve.f (k : Nat) (a0_0 : Int) (l0_1 : List (S85)) : Option (Bool) := (laws_szSketch.f a0_0 l0_1 1048576).bind fun t357 => (if t357 < 0 then (some true) else ((laws_toSketch.f k a0_0 l0_1).bind fun bt358 => ((spec_SketchSolve.f k bt358.1 bt358.2).bind fun bt362 => ((laws_toSketch.f k a0_0 l0_1).bind fun bt369 => ((impl_SketchSolve.f k bt369.1 bt369.2).bind fun bt374 => ((laws_eqPointS.f k bt374.1 bt362.1).bind fun t381 => (if t381 = true then (if bt374.2.1 = bt362.2.1 then ((laws_eqIntS.f k bt374.2.2 bt362.2.2).bind fun t382 => (laws_FnExactSketchSolve.j0 k bt362.1 bt362.2.1 bt362.2.2 bt374.1 bt374.2.1 bt374.2.2 (!t382) a0_0 l0_1 bt369.1 bt369.2)) else (laws_FnExactSketchSolve.j0 k bt362.1 bt362.2.1 bt362.2.2 bt374.1 bt374.2.1 bt374.2.2 true a0_0 l0_1 bt369.1 bt369.2)) else (laws_FnExactSketchSolve.j0 k bt362.1 bt362.2.1 bt362.2.2 bt374.1 bt374.2.1 bt374.2.2 true a0_0 l0_1 bt369.1 bt369.2))))))))
theorem laws_FnExactSketchSolve.mono_l : ∀ k, (∀ y0 y1 y2 y3 y4 y5 y6 y7 y8 y9 y10, LeO (laws_FnExactSketchSolve.j0 k y0 y1 y2 y3 y4 y5 y6 y7 y8 y9 y10) (laws_FnExactSketchSolve.j0 (k + 1) y0 y1 y2 y3 y4 y5 y6 y7 y8 y9 y10)) ∧ (∀ y0 y1 y2 y3 y4 y5 y6 y7, LeO (laws_FnExactSketchSolve.j1 k y0 y1 y2 y3 y4 y5 y6 y7) (laws_FnExactSketchSolve.j1 (k + 1) y0 y1 y2 y3 y4 y5 y6 y7)) ∧ (∀ y0 y1 y2 y3, LeO (laws_FnExactSketchSolve.j2 k y0 y1 y2 y3) (laws_FnExactSketchSolve.j2 (k + 1) y0 y1 y2 y3))
 | 0 => ⟨fun _ _ _ _ _ _ _ _ _ _ _ r h => by simp [laws_FnExactSketchSolve.j0] at h, fun _ _ _ _ _ _ _ _ r h => by simp [laws_FnExactSketchSolve.j1] at h, fun _ _ _ _ r h => by simp [laws_FnExactSketchSolve.j2] at h⟩
 | k + 1 => by
  obtain ⟨ih0, ih1, ih2⟩ := laws_FnExactSketchSolve.mono_l k
  refine ⟨?_, ?_, ?_⟩
  ·intro y0 y1 y2 y3 y4 y5 y6 y7 y8 y9 y10
   unfold laws_FnExactSketchSolve.j0
   repeat' first
   | (with_reducible exact ih0 _ _ _ _ _ _ _ _ _ _ _)
   | (with_reducible exact ih1 _ _ _ _ _ _ _ _)
   | (with_reducible exact ih2 _ _ _ _)
   | (with_reducible exact impl_SketchSolve.mono _ _ _)
   | (with_reducible exact laws_eqIntS.mono _ _ _)
   | (with_reducible exact laws_eqPointS.mono _ _ _)
   | (with_reducible exact laws_eqSketch.mono _ _ _ _ _)
   | (with_reducible exact laws_heldIntS.mono _ _ _)
   | (with_reducible exact laws_heldPointS.mono _ _ _)
   | (with_reducible exact laws_markIntS.mono _ _ _)
   | (with_reducible exact laws_markPointS.mono _ _ _)
   | (with_reducible exact laws_markSketch.mono _ _ _ _)
   | (with_reducible exact laws_toSketch.mono _ _ _)
   | (with_reducible exact spec_SketchSolve.mono _ _ _)
   | (with_reducible exact LeO.refl _)
   | (with_reducible exact LeO.none _)
   | (with_reducible refine LeO.ite ?_ ?_)
   | (with_reducible refine LeO.bind ?_ (fun _ => ?_))
   | exact ih0 _ _ _ _ _ _ _ _ _ _ _
   | exact ih1 _ _ _ _ _ _ _ _
   | exact ih2 _ _ _ _
   | exact impl_SketchSolve.mono _ _ _
   | exact laws_eqIntS.mono _ _ _
   | exact laws_eqPointS.mono _ _ _
   | exact laws_eqSketch.mono _ _ _ _ _
   | exact laws_heldIntS.mono _ _ _
   | exact laws_heldPointS.mono _ _ _
   | exact laws_markIntS.mono _ _ _
   | exact laws_markPointS.mono _ _ _
   | exact laws_markSketch.mono _ _ _ _
   | exact laws_toSketch.mono _ _ _
   | exact spec_SketchSolve.mono _ _ _
   | exact LeO.none _
   | refine LeO.ite ?_ ?_
   | refine LeO.bind ?_ (fun _ => ?_)
  ·intro y0 y1 y2 y3 y4 y5 y6 y7
   unfold laws_FnExactSketchSolve.j1
   repeat' first
   | (with_reducible exact ih0 _ _ _ _ _ _ _ _ _ _ _)
   | (with_reducible exact ih1 _ _ _ _ _ _ _ _)
   | (with_reducible exact ih2 _ _ _ _)
   | (with_reducible exact impl_SketchSolve.mono _ _ _)
   | (with_reducible exact laws_eqIntS.mono _ _ _)
   | (with_reducible exact laws_eqPointS.mono _ _ _)
   | (with_reducible exact laws_eqSketch.mono _ _ _ _ _)
   | (with_reducible exact laws_heldIntS.mono _ _ _)
   | (with_reducible exact laws_heldPointS.mono _ _ _)
   | (with_reducible exact laws_markIntS.mono _ _ _)
   | (with_reducible exact laws_markPointS.mono _ _ _)
   | (with_reducible exact laws_markSketch.mono _ _ _ _)
   | (with_reducible exact laws_toSketch.mono _ _ _)
   | (with_reducible exact spec_SketchSolve.mono _ _ _)
   | (with_reducible exact LeO.refl _)
   | (with_reducible exact LeO.none _)
   | (with_reducible refine LeO.ite ?_ ?_)
   | (with_reducible refine LeO.bind ?_ (fun _ => ?_))
   | exact ih0 _ _ _ _ _ _ _ _ _ _ _
   | exact ih1 _ _ _ _ _ _ _ _
   | exact ih2 _ _ _ _
   | exact impl_SketchSolve.mono _ _ _
   | exact laws_eqIntS.mono _ _ _
   | exact laws_eqPointS.mono _ _ _
   | exact laws_eqSketch.mono _ _ _ _ _
   | exact laws_heldIntS.mono _ _ _
   | exact laws_heldPointS.mono _ _ _
   | exact laws_markIntS.mono _ _ _
   | exact laws_markPointS.mono _ _ _
   | exact laws_markSketch.mono _ _ _ _
   | exact laws_toSketch.mono _ _ _
   | exact spec_SketchSolve.mono _ _ _
   | exact LeO.none _
   | refine LeO.ite ?_ ?_
   | refine LeO.bind ?_ (fun _ => ?_)
  ·intro y0 y1 y2 y3
   unfold laws_FnExactSketchSolve.j2
   repeat' first
   | (with_reducible exact ih0 _ _ _ _ _ _ _ _ _ _ _)
   | (with_reducible exact ih1 _ _ _ _ _ _ _ _)
   | (with_reducible exact ih2 _ _ _ _)
   | (with_reducible exact impl_SketchSolve.mono _ _ _)
   | (with_reducible exact laws_eqIntS.mono _ _ _)
   | (with_reducible exact laws_eqPointS.mono _ _ _)
   | (with_reducible exact laws_eqSketch.mono _ _ _ _ _)
   | (with_reducible exact laws_heldIntS.mono _ _ _)
   | (with_reducible exact laws_heldPointS.mono _ _ _)
   | (with_reducible exact laws_markIntS.mono _ _ _)
   | (with_reducible exact laws_markPointS.mono _ _ _)
   | (with_reducible exact laws_markSketch.mono _ _ _ _)
   | (with_reducible exact laws_toSketch.mono _ _ _)
   | (with_reducible exact spec_SketchSolve.mono _ _ _)
   | (with_reducible exact LeO.refl _)
   | (with_reducible exact LeO.none _)
   | (with_reducible refine LeO.ite ?_ ?_)
   | (with_reducible refine LeO.bind ?_ (fun _ => ?_))
   | exact ih0 _ _ _ _ _ _ _ _ _ _ _
   | exact ih1 _ _ _ _ _ _ _ _
   | exact ih2 _ _ _ _
   | exact impl_SketchSolve.mono _ _ _
   | exact laws_eqIntS.mono _ _ _
   | exact laws_eqPointS.mono _ _ _
   | exact laws_eqSketch.mono _ _ _ _ _
   | exact laws_heldIntS.mono _ _ _
   | exact laws_heldPointS.mono _ _ _
   | exact laws_markIntS.mono _ _ _
   | exact laws_markPointS.mono _ _ _
   | exact laws_markSketch.mono _ _ _ _
   | exact laws_toSketch.mono _ _ _
   | exact spec_SketchSolve.mono _ _ _
   | exact LeO.none _
   | refine LeO.ite ?_ ?_
   | refine LeO.bind ?_ (fun _ => ?_)
theorem laws_FnExactSketchSolve.mono : ∀ a0 a1 k, LeO (laws_FnExactSketchSolve.f k a0 a1) (laws_FnExactSketchSolve.f (k + 1) a0 a1) := by
 intro a0 a1 k
 obtain ⟨ih0, ih1, ih2⟩ := laws_FnExactSketchSolve.mono_l k
 unfold laws_FnExactSketchSolve.f
 repeat' first
   | (with_reducible exact ih0 _ _ _ _ _ _ _ _ _ _ _)
   | (with_reducible exact ih1 _ _ _ _ _ _ _ _)
   | (with_reducible exact ih2 _ _ _ _)
   | (with_reducible exact impl_SketchSolve.mono _ _ _)
   | (with_reducible exact laws_eqIntS.mono _ _ _)
   | (with_reducible exact laws_eqPointS.mono _ _ _)
   | (with_reducible exact laws_eqSketch.mono _ _ _ _ _)
   | (with_reducible exact laws_heldIntS.mono _ _ _)
   | (with_reducible exact laws_heldPointS.mono _ _ _)
   | (with_reducible exact laws_markIntS.mono _ _ _)
   | (with_reducible exact laws_markPointS.mono _ _ _)
   | (with_reducible exact laws_markSketch.mono _ _ _ _)
   | (with_reducible exact laws_toSketch.mono _ _ _)
   | (with_reducible exact spec_SketchSolve.mono _ _ _)
   | (with_reducible exact LeO.refl _)
   | (with_reducible exact LeO.none _)
   | (with_reducible refine LeO.ite ?_ ?_)
   | (with_reducible refine LeO.bind ?_ (fun _ => ?_))
   | exact ih0 _ _ _ _ _ _ _ _ _ _ _
   | exact ih1 _ _ _ _ _ _ _ _
   | exact ih2 _ _ _ _
   | exact impl_SketchSolve.mono _ _ _
   | exact laws_eqIntS.mono _ _ _
   | exact laws_eqPointS.mono _ _ _
   | exact laws_eqSketch.mono _ _ _ _ _
   | exact laws_heldIntS.mono _ _ _
   | exact laws_heldPointS.mono _ _ _
   | exact laws_markIntS.mono _ _ _
   | exact laws_markPointS.mono _ _ _
   | exact laws_markSketch.mono _ _ _ _
   | exact laws_toSketch.mono _ _ _
   | exact spec_SketchSolve.mono _ _ _
   | exact LeO.none _
   | refine LeO.ite ?_ ?_
   | refine LeO.bind ?_ (fun _ => ?_)
set_option maxHeartbeats 8000000 in
set_option maxRecDepth 100000 in
theorem laws_FnExactSketchSolve.calls (k : Nat) (a0_0 : Int) (A0_1 : Option Addr) (c0_1 : Nat) (l0_1 : List (S85)) (r : Bool) (w : World) (hr0_1 : Kd.C k85 w A0_1 l0_1.length l0_1) (hc0_1 : l0_1.length ≤ c0_1) (h : laws_FnExactSketchSolve.f k a0_0 l0_1 = some r) :
  Calls Try.prog 6 #[.agg #[.int .i64 a0_0, .slice A0_1 l0_1.length c0_1]] w fun e w' => e = .returned (.bool r) ∧ Below w.heap.size w w' := by
 have hu39 := Try.underlying39
 have hu25 := Try.underlying25
 have HR0_1 := zA hr0_1
 have HC0_1 := zA hc0_1
 clear hr0_1 hc0_1
 have HB := zA (Below.refl w.heap.size w)
 have H : ((laws_szSketch.f a0_0 l0_1 1048576).bind fun t357 => (if t357 < 0 then (some true) else ((laws_toSketch.f k a0_0 l0_1).bind fun bt358 => ((spec_SketchSolve.f k bt358.1 bt358.2).bind fun bt362 => ((laws_toSketch.f k a0_0 l0_1).bind fun bt369 => ((impl_SketchSolve.f k bt369.1 bt369.2).bind fun bt374 => ((laws_eqPointS.f k bt374.1 bt362.1).bind fun t381 => (if t381 = true then (if bt374.2.1 = bt362.2.1 then ((laws_eqIntS.f k bt374.2.2 bt362.2.2).bind fun t382 => (laws_FnExactSketchSolve.j0 k bt362.1 bt362.2.1 bt362.2.2 bt374.1 bt374.2.1 bt374.2.2 (!t382) a0_0 l0_1 bt369.1 bt369.2)) else (laws_FnExactSketchSolve.j0 k bt362.1 bt362.2.1 bt362.2.2 bt374.1 bt374.2.1 bt374.2.2 true a0_0 l0_1 bt369.1 bt369.2)) else (laws_FnExactSketchSolve.j0 k bt362.1 bt362.2.1 bt362.2.2 bt374.1 bt374.2.1 bt374.2.2 true a0_0 l0_1 bt369.1 bt369.2))))))))) = some r := h
 clear h
 replace H := Option.bind_eq_some_iff.mp H
 obtain ⟨t357, A20, H⟩ := H
 replace H : (if t357 < 0 then (some true) else ((laws_toSketch.f k a0_0 l0_1).bind fun bt358 => ((spec_SketchSolve.f k bt358.1 bt358.2).bind fun bt362 => ((laws_toSketch.f k a0_0 l0_1).bind fun bt369 => ((impl_SketchSolve.f k bt369.1 bt369.2).bind fun bt374 => ((laws_eqPointS.f k bt374.1 bt362.1).bind fun t381 => (if t381 = true then (if bt374.2.1 = bt362.2.1 then ((laws_eqIntS.f k bt374.2.2 bt362.2.2).bind fun t382 => (laws_FnExactSketchSolve.j0 k bt362.1 bt362.2.1 bt362.2.2 bt374.1 bt374.2.1 bt374.2.2 (!t382) a0_0 l0_1 bt369.1 bt369.2)) else (laws_FnExactSketchSolve.j0 k bt362.1 bt362.2.1 bt362.2.2 bt374.1 bt374.2.1 bt374.2.2 true a0_0 l0_1 bt369.1 bt369.2)) else (laws_FnExactSketchSolve.j0 k bt362.1 bt362.2.1 bt362.2.2 bt374.1 bt374.2.1 bt374.2.2 true a0_0 l0_1 bt369.1 bt369.2)))))))) = some r := H
 have A2 := zA A20
 clear A20
 by_cases c3 : t357 < 0
 ·rw [if_pos c3] at H
  have c3b0 : decide (t357 < 0) = true := decide_eq_true c3
  clear c3
  obtain rfl := Option.some.inj H
  go_enter Try.func6, Try.ntmps6
  go_wp2_with (first | ((with_reducible refine gate_dst (N := 1) rfl ?_); refine box_event ?hg (N := 1) ?hd (cs := #[.int .i64 a0_0, .slice A0_1 l0_1.length c0_1]) (t := 39) ?hr ?_; (case hd => rfl); (case hg => rfl); (case hr => first | (go_simp; done) | (go_simp; rfl)); intro gb356 hg w4 hbox hb; have n0_ := zA (below_step (by repeat (first | (with_reducible first | exact HB.out | apply zR | apply zP | apply zQ) | exact HB.out)) hb); have n1_ := zA (hbox); have n2_ := zA ((by rw [hg]; exact (zT (by repeat (first | (with_reducible first | exact HB.out | apply zR | apply zP | apply zQ) | exact HB.out))) : w.heap.size ≤ gb356)); have n3_ := zA ((by rw [hg]; exact (zT (by repeat (first | (with_reducible first | exact HB.out | apply zR | apply zP | apply zQ) | exact HB.out))) : w.heap.size ≤ gb356)); clear HB; have HB := n0_; have BK356 := n1_; have GW356 := n2_; have GE356 := n3_; clear n0_ n1_ n2_ n3_; clear hb hbox hg; have hcz5_0 : w4.cell? ⟨gb356, 0, none⟩ = some (.int .i64 a0_0) := (blk_cell BK356.out 0).trans rfl; have hcz5_1 : w4.cell? ⟨gb356, 1, none⟩ = some (.slice A0_1 l0_1.length c0_1) := (blk_cell BK356.out 1).trans rfl; have hfz5_0 := blk_frozen BK356.out 0; have hfz5_1 := blk_frozen BK356.out 1) | ((with_reducible refine gate_callee (f := 15) rfl ?_); refine goesL_ (some 19) rfl rfl Try.func15 (by kernel_rfl) rfl #[.agg #[.int .i64 a0_0, .slice A0_1 l0_1.length c0_1], .int .i64 1048576] rfl (by (try simp only [List.map_toArray, List.map_cons, List.map_nil]); first | done | rfl | (simp only [List.length_drop, List.length_take]; rfl)) ?_; (with_reducible refine (laws_szSketch.calls a0_0 _ _ l0_1 1048576 t357 _ ?side1 ?side2 A2.out).mono ?_); (case side1 => repeat (first | exact (Kd.C_below HR0_1.out HB.out) | (with_reducible refine zI ?_ _) | (with_reducible refine zH ?_ _) | (with_reducible refine zJ ?_))); (case side2 => exact HC0_1.out); rintro e w6 ⟨rfl, hb⟩; refine ⟨_, rfl, ?_⟩; have n0_ := zA (zU (g := gb356) (o := .cells #[.int .i64 a0_0, .slice A0_1 l0_1.length c0_1] 39 (0, 0)) (by (with_reducible repeat (first | refine zM ?_ _ | refine zN ?_ | refine zO ?_ _)); exact BK356.out) hb); have n1_ := zA (below_step (by repeat (first | (with_reducible first | exact HB.out | apply zR | apply zP | apply zQ | refine zS ?_ GE356.out) | exact HB.out)) hb); clear BK356; clear HB; have BK356 := n0_; have HB := n1_; clear n0_ n1_; (try clear hb); (try clear hb2); (try clear hk); (try clear hi)))
  go_ret
  exact ⟨by first | rfl | (simp [errW_none, errW_some] <;> rfl) | (simp [*, errW_none, errW_some] <;> rfl), by repeat (first | (with_reducible first | exact HB.out | apply zR | apply zP | apply zQ | refine zS ?_ GE356.out) | exact HB.out)⟩
 ·rw [if_neg c3] at H
  have c3b0 : decide (t357 < 0) = false := decide_eq_false c3
  clear c3
  replace H := Option.bind_eq_some_iff.mp H
  obtain ⟨⟨t358, t359⟩, A70, H⟩ := H
  replace H : ((spec_SketchSolve.f k t358 t359).bind fun bt362 => ((laws_toSketch.f k a0_0 l0_1).bind fun bt369 => ((impl_SketchSolve.f k bt369.1 bt369.2).bind fun bt374 => ((laws_eqPointS.f k bt374.1 bt362.1).bind fun t381 => (if t381 = true then (if bt374.2.1 = bt362.2.1 then ((laws_eqIntS.f k bt374.2.2 bt362.2.2).bind fun t382 => (laws_FnExactSketchSolve.j0 k bt362.1 bt362.2.1 bt362.2.2 bt374.1 bt374.2.1 bt374.2.2 (!t382) a0_0 l0_1 bt369.1 bt369.2)) else (laws_FnExactSketchSolve.j0 k bt362.1 bt362.2.1 bt362.2.2 bt374.1 bt374.2.1 bt374.2.2 true a0_0 l0_1 bt369.1 bt369.2)) else (laws_FnExactSketchSolve.j0 k bt362.1 bt362.2.1 bt362.2.2 bt374.1 bt374.2.1 bt374.2.2 true a0_0 l0_1 bt369.1 bt369.2)))))) = some r := H
  have A7 := zA A70
  clear A70
  replace H := Option.bind_eq_some_iff.mp H
  obtain ⟨⟨t362, t365, t366⟩, A80, H⟩ := H
  replace H : ((laws_toSketch.f k a0_0 l0_1).bind fun bt369 => ((impl_SketchSolve.f k bt369.1 bt369.2).bind fun bt374 => ((laws_eqPointS.f k bt374.1 t362).bind fun t381 => (if t381 = true then (if bt374.2.1 = t365 then ((laws_eqIntS.f k bt374.2.2 t366).bind fun t382 => (laws_FnExactSketchSolve.j0 k t362 t365 t366 bt374.1 bt374.2.1 bt374.2.2 (!t382) a0_0 l0_1 bt369.1 bt369.2)) else (laws_FnExactSketchSolve.j0 k t362 t365 t366 bt374.1 bt374.2.1 bt374.2.2 true a0_0 l0_1 bt369.1 bt369.2)) else (laws_FnExactSketchSolve.j0 k t362 t365 t366 bt374.1 bt374.2.1 bt374.2.2 true a0_0 l0_1 bt369.1 bt369.2))))) = some r := H
  have A8 := zA A80
  clear A80
  replace H := Option.bind_eq_some_iff.mp H
  obtain ⟨⟨t369, t370⟩, A90, H⟩ := H
  replace H : ((impl_SketchSolve.f k t369 t370).bind fun bt374 => ((laws_eqPointS.f k bt374.1 t362).bind fun t381 => (if t381 = true then (if bt374.2.1 = t365 then ((laws_eqIntS.f k bt374.2.2 t366).bind fun t382 => (laws_FnExactSketchSolve.j0 k t362 t365 t366 bt374.1 bt374.2.1 bt374.2.2 (!t382) a0_0 l0_1 t369 t370)) else (laws_FnExactSketchSolve.j0 k t362 t365 t366 bt374.1 bt374.2.1 bt374.2.2 true a0_0 l0_1 t369 t370)) else (laws_FnExactSketchSolve.j0 k t362 t365 t366 bt374.1 bt374.2.1 bt374.2.2 true a0_0 l0_1 t369 t370)))) = some r := H
  have A9 := zA A90
  clear A90
  replace H := Option.bind_eq_some_iff.mp H
  obtain ⟨⟨t374, t377, t378⟩, A100, H⟩ := H
  replace H : ((laws_eqPointS.f k t374 t362).bind fun t381 => (if t381 = true then (if t377 = t365 then ((laws_eqIntS.f k t378 t366).bind fun t382 => (laws_FnExactSketchSolve.j0 k t362 t365 t366 t374 t377 t378 (!t382) a0_0 l0_1 t369 t370)) else (laws_FnExactSketchSolve.j0 k t362 t365 t366 t374 t377 t378 true a0_0 l0_1 t369 t370)) else (laws_FnExactSketchSolve.j0 k t362 t365 t366 t374 t377 t378 true a0_0 l0_1 t369 t370))) = some r := H
  have A10 := zA A100
  clear A100
  have HC11 := zA H
  clear H
  go_enter Try.func6, Try.ntmps6
  go_upto_region 8 with (first | ((with_reducible refine gate_dst (N := 1) rfl ?_); refine box_event ?hg (N := 1) ?hd (cs := #[.int .i64 a0_0, .slice A0_1 l0_1.length c0_1]) (t := 39) ?hr ?_; (case hd => rfl); (case hg => rfl); (case hr => first | (go_simp; done) | (go_simp; rfl)); intro gb356 hg w12 hbox hb; have n0_ := zA (below_step (by repeat (first | (with_reducible first | exact HB.out | apply zR | apply zP | apply zQ) | exact HB.out)) hb); have n1_ := zA (hbox); have n2_ := zA ((by rw [hg]; exact (zT (by repeat (first | (with_reducible first | exact HB.out | apply zR | apply zP | apply zQ) | exact HB.out))) : w.heap.size ≤ gb356)); have n3_ := zA ((by rw [hg]; exact (zT (by repeat (first | (with_reducible first | exact HB.out | apply zR | apply zP | apply zQ) | exact HB.out))) : w.heap.size ≤ gb356)); clear HB; have HB := n0_; have BK356 := n1_; have GW356 := n2_; have GE356 := n3_; clear n0_ n1_ n2_ n3_; clear hb hbox hg; have hcz13_0 : w12.cell? ⟨gb356, 0, none⟩ = some (.int .i64 a0_0) := (blk_cell BK356.out 0).trans rfl; have hcz13_1 : w12.cell? ⟨gb356, 1, none⟩ = some (.slice A0_1 l0_1.length c0_1) := (blk_cell BK356.out 1).trans rfl; have hfz13_0 := blk_frozen BK356.out 0; have hfz13_1 := blk_frozen BK356.out 1) | ((with_reducible refine gate_callee (f := 15) rfl ?_); refine goesL_ (some 19) rfl rfl Try.func15 (by kernel_rfl) rfl #[.agg #[.int .i64 a0_0, .slice A0_1 l0_1.length c0_1], .int .i64 1048576] rfl (by (try simp only [List.map_toArray, List.map_cons, List.map_nil]); first | done | rfl | (simp only [List.length_drop, List.length_take]; rfl)) ?_; (with_reducible refine (laws_szSketch.calls a0_0 _ _ l0_1 1048576 t357 _ ?side1 ?side2 A2.out).mono ?_); (case side1 => repeat (first | exact (Kd.C_below HR0_1.out HB.out) | (with_reducible refine zI ?_ _) | (with_reducible refine zH ?_ _) | (with_reducible refine zJ ?_))); (case side2 => exact HC0_1.out); rintro e w14 ⟨rfl, hb⟩; refine ⟨_, rfl, ?_⟩; have n0_ := zA (zU (g := gb356) (o := .cells #[.int .i64 a0_0, .slice A0_1 l0_1.length c0_1] 39 (0, 0)) (by (with_reducible repeat (first | refine zM ?_ _ | refine zN ?_ | refine zO ?_ _)); exact BK356.out) hb); have n1_ := zA (below_step (by repeat (first | (with_reducible first | exact HB.out | apply zR | apply zP | apply zQ | refine zS ?_ GE356.out) | exact HB.out)) hb); clear BK356; clear HB; have BK356 := n0_; have HB := n1_; clear n0_ n1_; (try clear hb); (try clear hb2); (try clear hk); (try clear hi); have hcz15_0 : w14.cell? ⟨gb356, 0, none⟩ = some (.int .i64 a0_0) := (blk_cell BK356.out 0).trans rfl; have hcz15_1 : w14.cell? ⟨gb356, 1, none⟩ = some (.slice A0_1 l0_1.length c0_1) := (blk_cell BK356.out 1).trans rfl; have hfz15_0 := blk_frozen BK356.out 0; have hfz15_1 := blk_frozen BK356.out 1) | ((with_reducible refine gate_callee (f := 17) rfl ?_); refine goesL_ (some 24) rfl rfl Try.func17 (by kernel_rfl) rfl #[.agg #[.int .i64 a0_0, .slice A0_1 l0_1.length c0_1]] rfl (by (try simp only [List.map_toArray, List.map_cons, List.map_nil]); first | done | rfl | (simp only [List.length_drop, List.length_take]; rfl)) ?_; (with_reducible refine (laws_toSketch.calls k a0_0 _ _ l0_1 t358 t359 _ ?side1 ?side2 A7.out).mono ?_); (case side1 => repeat (first | exact (Kd.C_below HR0_1.out HB.out) | (with_reducible refine zI ?_ _) | (with_reducible refine zH ?_ _) | (with_reducible refine zJ ?_))); (case side2 => exact HC0_1.out); rintro e w16 ⟨v360, rfl, ho0, hb⟩; refine ⟨_, rfl, ?_⟩; have n0_ := zA (Kd.R_lower ho0 (zT (by repeat (first | (with_reducible first | exact HB.out | apply zR | apply zP | apply zQ | refine zS ?_ GE356.out) | exact HB.out)))); have n1_ := zA (zU (g := gb356) (o := .cells #[.int .i64 a0_0, .slice A0_1 l0_1.length c0_1] 39 (0, 0)) (by (with_reducible repeat (first | refine zM ?_ _ | refine zN ?_ | refine zO ?_ _)); exact BK356.out) hb); have n2_ := zA (below_step (by repeat (first | (with_reducible first | exact HB.out | apply zR | apply zP | apply zQ | refine zS ?_ GE356.out) | exact HB.out)) hb); clear BK356; clear HB; have HO361 := n0_; have BK356 := n1_; have HB := n2_; clear n0_ n1_ n2_; (try clear hb); (try clear hb2); (try clear hk); (try clear hi); (try clear ho0); obtain ⟨Ao17, co17, eo17⟩ := Kd.R_slice HO361.out; subst eo17) | ((with_reducible refine gate_callee (f := 10) rfl ?_); refine goesL_ (some 25) rfl rfl Try.func10 (by kernel_rfl) rfl #[.agg #[.int .i64 t358, .slice Ao17 t359.length co17]] rfl (by (try simp only [List.map_toArray, List.map_cons, List.map_nil]); first | done | rfl | (simp only [List.length_drop, List.length_take]; rfl)) ?_; (with_reducible refine (spec_SketchSolve.calls k t358 _ _ t359 t362 t365 t366 _ ?side1 ?side2 A8.out).mono ?_); (case side1 => repeat (first | exact (zK HO361.out).2.2 | (with_reducible refine zI ?_ _) | (with_reducible refine zH ?_ _) | (with_reducible refine zJ ?_))); (case side2 => exact (zK HO361.out).2.1); rintro e w18 ⟨v363, v367, rfl, ho0, ho1, hb⟩; refine ⟨_, rfl, ?_⟩; have n0_ := zA (zL (by (with_reducible repeat (first | apply zF | apply zE | apply zG)); exact HO361.out) hb); have n1_ := zA (Kd.R_lower ho0 (zT (by repeat (first | (with_reducible first | exact HB.out | apply zR | apply zP | apply zQ | refine zS ?_ GE356.out) | exact HB.out)))); have n2_ := zA (Kd.R_lower ho1 (zT (by repeat (first | (with_reducible first | exact HB.out | apply zR | apply zP | apply zQ | refine zS ?_ GE356.out) | exact HB.out)))); have n3_ := zA (zU (g := gb356) (o := .cells #[.int .i64 a0_0, .slice A0_1 l0_1.length c0_1] 39 (0, 0)) (by (with_reducible repeat (first | refine zM ?_ _ | refine zN ?_ | refine zO ?_ _)); exact BK356.out) hb); have n4_ := zA (below_step (by repeat (first | (with_reducible first | exact HB.out | apply zR | apply zP | apply zQ | refine zS ?_ GE356.out) | exact HB.out)) hb); clear HO361; clear BK356; clear HB; have HO361 := n0_; have HO364 := n1_; have HO368 := n2_; have BK356 := n3_; have HB := n4_; clear n0_ n1_ n2_ n3_ n4_; (try clear hb); (try clear hb2); (try clear hk); (try clear hi); (try clear ho0); (try clear ho1); have hcz19_0 : w18.cell? ⟨gb356, 0, none⟩ = some (.int .i64 a0_0) := (blk_cell BK356.out 0).trans rfl; have hcz19_1 : w18.cell? ⟨gb356, 1, none⟩ = some (.slice A0_1 l0_1.length c0_1) := (blk_cell BK356.out 1).trans rfl; have hfz19_0 := blk_frozen BK356.out 0; have hfz19_1 := blk_frozen BK356.out 1) | ((with_reducible refine gate_callee (f := 17) rfl ?_); refine goesL_ (some 30) rfl rfl Try.func17 (by kernel_rfl) rfl #[.agg #[.int .i64 a0_0, .slice A0_1 l0_1.length c0_1]] rfl (by (try simp only [List.map_toArray, List.map_cons, List.map_nil]); first | done | rfl | (simp only [List.length_drop, List.length_take]; rfl)) ?_; (with_reducible refine (laws_toSketch.calls k a0_0 _ _ l0_1 t369 t370 _ ?side1 ?side2 A9.out).mono ?_); (case side1 => repeat (first | exact (Kd.C_below HR0_1.out HB.out) | (with_reducible refine zI ?_ _) | (with_reducible refine zH ?_ _) | (with_reducible refine zJ ?_))); (case side2 => exact HC0_1.out); rintro e w20 ⟨v371, rfl, ho0, hb⟩; refine ⟨_, rfl, ?_⟩; have n0_ := zA (Kd.R_elder' (by (with_reducible repeat (first | apply zF | apply zE | apply zG)); exact HO361.out) (Kd.R_base ho0) hb); have n1_ := zA (zL (by (with_reducible repeat (first | apply zF | apply zE | apply zG)); exact HO364.out) hb); have n2_ := zA (zL (by (with_reducible repeat (first | apply zF | apply zE | apply zG)); exact HO368.out) hb); have n3_ := zA (Kd.R_lower (Kd.R_new' ho0 (Kd.R_lt (by (with_reducible repeat (first | apply zF | apply zE | apply zG)); exact HO361.out))) (zT (by repeat (first | (with_reducible first | exact HB.out | apply zR | apply zP | apply zQ | refine zS ?_ GE356.out) | exact HB.out)))); have n4_ := zA (zU (g := gb356) (o := .cells #[.int .i64 a0_0, .slice A0_1 l0_1.length c0_1] 39 (0, 0)) (by (with_reducible repeat (first | refine zM ?_ _ | refine zN ?_ | refine zO ?_ _)); exact BK356.out) hb); have n5_ := zA (below_step (by repeat (first | (with_reducible first | exact HB.out | apply zR | apply zP | apply zQ | refine zS ?_ GE356.out) | exact HB.out)) hb); clear HO361; clear HO364; clear HO368; clear BK356; clear HB; have HO361 := n0_; have HO364 := n1_; have HO368 := n2_; have HO372 := n3_; have BK356 := n4_; have HB := n5_; clear n0_ n1_ n2_ n3_ n4_ n5_; (try clear hb); (try clear hb2); (try clear hk); (try clear hi); (try clear ho0)) | ((with_reducible refine gate_dst (N := 7) rfl ?_); refine box_event ?hg (N := 7) ?hd (cs := #[.int .i64 0, .slice none 0 0]) (t := 25) ?hr ?_; (case hd => rfl); (case hg => rfl); (case hr => first | (go_simp; done) | (go_simp; rfl)); intro gb373 hg w21 hbox hb; have n0_ := zA (zL (by (with_reducible repeat (first | apply zF | apply zE | apply zG)); exact HO361.out) hb); have n1_ := zA (zL (by (with_reducible repeat (first | apply zF | apply zE | apply zG)); exact HO364.out) hb); have n2_ := zA (zL (by (with_reducible repeat (first | apply zF | apply zE | apply zG)); exact HO368.out) hb); have n3_ := zA (zL (by (with_reducible repeat (first | apply zF | apply zE | apply zG)); exact HO372.out) hb); have n4_ := zA (zU (g := gb356) (o := .cells #[.int .i64 a0_0, .slice A0_1 l0_1.length c0_1] 39 (0, 0)) (by (with_reducible repeat (first | refine zM ?_ _ | refine zN ?_ | refine zO ?_ _)); exact BK356.out) hb); have n5_ := zA (below_step (by repeat (first | (with_reducible first | exact HB.out | apply zR | apply zP | apply zQ | refine zS ?_ GE356.out) | exact HB.out)) hb); have n6_ := zA (hbox); have n7_ := zA ((by rw [hg]; exact (zT (by repeat (first | (with_reducible first | exact HB.out | apply zR | apply zP | apply zQ | refine zS ?_ GE356.out) | exact HB.out))) : w.heap.size ≤ gb373)); have n8_ := zA ((by rw [hg]; exact (zT (by repeat (first | (with_reducible first | exact HB.out | apply zR | apply zP | apply zQ | refine zS ?_ GE356.out) | exact HB.out))) : w.heap.size ≤ gb373)); have n9_ := zA ((by rw [hg]; exact Nat.ne_of_lt (blk_lt (g := gb356) (o := .cells #[.int .i64 a0_0, .slice A0_1 l0_1.length c0_1] 39 (0, 0)) (by (with_reducible repeat (first | refine zM ?_ _ | refine zN ?_ | refine zO ?_ _)); exact BK356.out)) : gb356 ≠ gb373)); have n10_ := zA ((by rw [hg]; exact Nat.ne_of_gt (blk_lt (g := gb356) (o := .cells #[.int .i64 a0_0, .slice A0_1 l0_1.length c0_1] 39 (0, 0)) (by (with_reducible repeat (first | refine zM ?_ _ | refine zN ?_ | refine zO ?_ _)); exact BK356.out)) : gb373 ≠ gb356)); clear HO361; clear HO364; clear HO368; clear HO372; clear BK356; clear HB; have HO361 := n0_; have HO364 := n1_; have HO368 := n2_; have HO372 := n3_; have BK356 := n4_; have HB := n5_; have BK373 := n6_; have GW373 := n7_; have GE373 := n8_; have NB356_373 := n9_; have NB373_356 := n10_; clear n0_ n1_ n2_ n3_ n4_ n5_ n6_ n7_ n8_ n9_ n10_; clear hb hbox hg; have hnb22 := NB373_356.out; have hnc22 := NB356_373.out; have hcz23_0 : w21.cell? ⟨gb373, 0, none⟩ = some (.int .i64 0) := (blk_cell BK373.out 0).trans rfl; have hcz23_1 : w21.cell? ⟨gb373, 1, none⟩ = some (.slice none 0 0) := (blk_cell BK373.out 1).trans rfl; have hfz23_0 := blk_frozen BK373.out 0; have hfz23_1 := blk_frozen BK373.out 1; obtain ⟨Ao24, co24, eo24⟩ := Kd.R_slice HO372.out; subst eo24) | ((with_reducible refine gate_callee (f := 9) rfl ?_); refine goesL_ (some 33) rfl rfl Try.func9 (by kernel_rfl) rfl #[.agg #[.int .i64 t369, .slice Ao24 t370.length co24]] rfl (by (try simp only [List.map_toArray, List.map_cons, List.map_nil]); first | done | rfl | (simp only [List.length_drop, List.length_take]; rfl)) ?_; (with_reducible refine (impl_SketchSolve.calls k t369 _ _ t370 t374 t377 t378 _ ?side1 ?side2 A10.out).mono ?_); (case side1 => refine (zK (e := 35) (base := w.heap.size) (ok := fun k_ => (True ∧ some k_ ≠ (.slice Ao17 t359.length co17 : Value).ownBlock)) (n := t370.length) (c := co24) ?_).2.2; exact (by (with_reducible repeat (first | apply zF | apply zE | apply zG)); exact (Kd.R_mono (Kd.R_far (p := ⟨gb373, 1, none⟩) (Kd.R_far (p := ⟨gb373, 0, none⟩) (Kd.R_types HO372.out BK373.out (by decide)) (fun _ hk => hk.2) (.int .i64 t369)) (fun _ hk => hk.2) (.slice Ao24 t370.length co24)) (fun _ h_ => h_.1)))); (case side2 => exact (zK HO372.out).2.1); rintro e w25 ⟨v375, v379, rfl, ho0, ho1, hb⟩; refine ⟨_, rfl, ?_⟩; have n0_ := zA (zL (by (with_reducible repeat (first | apply zF | apply zE | apply zG)); exact (Kd.R_mono (Kd.R_far (p := ⟨gb373, 1, none⟩) (Kd.R_far (p := ⟨gb373, 0, none⟩) (Kd.R_types HO361.out BK373.out (by decide)) (fun _ hk => hk.2) (.int .i64 t369)) (fun _ hk => hk.2) (.slice Ao24 t370.length co24)) (fun _ h_ => h_.1))) hb); have n1_ := zA (Kd.R_elder' (by (with_reducible repeat (first | apply zF | apply zE | apply zG)); exact (Kd.R_mono (Kd.R_far (p := ⟨gb373, 1, none⟩) (Kd.R_far (p := ⟨gb373, 0, none⟩) (Kd.R_types HO364.out BK373.out (by decide)) (fun _ hk => hk.2) (.int .i64 t369)) (fun _ hk => hk.2) (.slice Ao24 t370.length co24)) (fun _ h_ => h_.1))) (Kd.R_base ho0) hb); have n2_ := zA (Kd.R_elder' (by (with_reducible repeat (first | apply zF | apply zE | apply zG)); exact (Kd.R_mono (Kd.R_far (p := ⟨gb373, 1, none⟩) (Kd.R_far (p := ⟨gb373, 0, none⟩) (Kd.R_types HO368.out BK373.out (by decide)) (fun _ hk => hk.2) (.int .i64 t369)) (fun _ hk => hk.2) (.slice Ao24 t370.length co24)) (fun _ h_ => h_.1))) (Kd.R_base ho1) hb); have n3_ := zA (zL (by (with_reducible repeat (first | apply zF | apply zE | apply zG)); exact (Kd.R_mono (Kd.R_far (p := ⟨gb373, 1, none⟩) (Kd.R_far (p := ⟨gb373, 0, none⟩) (Kd.R_types HO372.out BK373.out (by decide)) (fun _ hk => hk.2) (.int .i64 t369)) (fun _ hk => hk.2) (.slice Ao24 t370.length co24)) (fun _ h_ => h_.1))) hb); have n4_ := zA (Kd.R_lower (Kd.R_new' ho0 (Kd.R_lt (by (with_reducible repeat (first | apply zF | apply zE | apply zG)); exact (Kd.R_mono (Kd.R_far (p := ⟨gb373, 1, none⟩) (Kd.R_far (p := ⟨gb373, 0, none⟩) (Kd.R_types HO364.out BK373.out (by decide)) (fun _ hk => hk.2) (.int .i64 t369)) (fun _ hk => hk.2) (.slice Ao24 t370.length co24)) (fun _ h_ => h_.1))))) (zT (by repeat (first | (with_reducible first | exact HB.out | apply zR | apply zP | apply zQ | refine zS ?_ GE356.out | refine zS ?_ GE373.out) | exact HB.out)))); have n5_ := zA (Kd.R_lower (Kd.R_new' ho1 (Kd.R_lt (by (with_reducible repeat (first | apply zF | apply zE | apply zG)); exact (Kd.R_mono (Kd.R_far (p := ⟨gb373, 1, none⟩) (Kd.R_far (p := ⟨gb373, 0, none⟩) (Kd.R_types HO368.out BK373.out (by decide)) (fun _ hk => hk.2) (.int .i64 t369)) (fun _ hk => hk.2) (.slice Ao24 t370.length co24)) (fun _ h_ => h_.1))))) (zT (by repeat (first | (with_reducible first | exact HB.out | apply zR | apply zP | apply zQ | refine zS ?_ GE356.out | refine zS ?_ GE373.out) | exact HB.out)))); have n6_ := zA (zU (g := gb356) (o := .cells #[.int .i64 a0_0, .slice A0_1 l0_1.length c0_1] 39 (0, 0)) (by (with_reducible repeat (first | refine zM ?_ _ | refine zN ?_ | refine zO ?_ _)); refine blk_far ?_ NB356_373.out _; (with_reducible repeat (first | refine zM ?_ _ | refine zN ?_ | refine zO ?_ _)); refine blk_far ?_ NB356_373.out _; (with_reducible repeat (first | refine zM ?_ _ | refine zN ?_ | refine zO ?_ _)); exact BK356.out) hb); have n7_ := zA (zU (g := gb373) (o := .cells #[.int .i64 t369, .slice Ao24 t370.length co24] 25 (0, 0)) (by (with_reducible repeat (first | refine zM ?_ _ | refine zN ?_ | refine zO ?_ _)); refine blk_put (cs := #[.int .i64 t369, .slice none 0 0]) ?_ 1 _ rfl; (with_reducible repeat (first | refine zM ?_ _ | refine zN ?_ | refine zO ?_ _)); refine blk_put (cs := #[.int .i64 0, .slice none 0 0]) ?_ 0 _ rfl; (with_reducible repeat (first | refine zM ?_ _ | refine zN ?_ | refine zO ?_ _)); exact BK373.out) hb); have n8_ := zA (below_step (by repeat (first | (with_reducible first | exact HB.out | apply zR | apply zP | apply zQ | refine zS ?_ GE356.out | refine zS ?_ GE373.out) | exact HB.out)) hb); clear HO361; clear HO364; clear HO368; clear HO372; clear BK356; clear BK373; clear HB; have HO361 := n0_; have HO364 := n1_; have HO368 := n2_; have HO372 := n3_; have HO376 := n4_; have HO380 := n5_; have BK356 := n6_; have BK373 := n7_; have HB := n8_; clear n0_ n1_ n2_ n3_ n4_ n5_ n6_ n7_ n8_; (try clear hb); (try clear hb2); (try clear hk); (try clear hi); (try clear ho0); (try clear ho1)))
  (try simp only [Act.put, zB, zC, zD])
  go_cut [51] (fun v51 wc => ∃ (kq : Nat) (x51_10 : Bool), v51 = .bool x51_10 ∧ Aside0 (laws_FnExactSketchSolve.j0 kq t362 t365 t366 t374 t377 t378 x51_10 a0_0 l0_1 t369 t370 = some r) ∧ Aside0 (kq ≤ k) ∧ Aside0 (Kd.R k48 48 wc w.heap.size (fun k_ => some k_ ≠ (v375 : Value).ownBlock) v363 t362) ∧ Aside0 (Kd.R (Kd.int .i64) 3 wc w.heap.size (fun k_ => some k_ ≠ (v379 : Value).ownBlock) v367 t366) ∧ Aside0 (Kd.R k48 48 wc w.heap.size (fun k_ => some k_ ≠ (v363 : Value).ownBlock) v375 t374) ∧ Aside0 (Kd.R (Kd.int .i64) 3 wc w.heap.size (fun k_ => some k_ ≠ (v367 : Value).ownBlock) v379 t378) ∧ Aside0 (Kd.R k35 35 wc w.heap.size (fun _ => True) (.slice Ao24 t370.length co24) t370) ∧ Aside0 (wc.heap[gb356]? = some (.cells #[.int .i64 a0_0, (.slice A0_1 l0_1.length c0_1)] 39 (0, 0))) ∧ Aside0 (wc.heap[gb373]? = some (.cells #[.int .i64 t369, (.slice Ao24 t370.length co24)] 25 (0, 0))) ∧ Aside0 (Below w.heap.size w wc))
  case first =>
   have H := HC11.out
   clear HC11
   replace H := Option.bind_eq_some_iff.mp H
   obtain ⟨t381, A260, H⟩ := H
   replace H : (if t381 = true then (if t377 = t365 then ((laws_eqIntS.f k t378 t366).bind fun t382 => (laws_FnExactSketchSolve.j0 k t362 t365 t366 t374 t377 t378 (!t382) a0_0 l0_1 t369 t370)) else (laws_FnExactSketchSolve.j0 k t362 t365 t366 t374 t377 t378 true a0_0 l0_1 t369 t370)) else (laws_FnExactSketchSolve.j0 k t362 t365 t366 t374 t377 t378 true a0_0 l0_1 t369 t370)) = some r := H
   have A26 := zA A260
   clear A260
   by_cases c27 : t381 = true
   ·subst c27
    have H1 : (if t377 = t365 then ((laws_eqIntS.f k t378 t366).bind fun t382 => (laws_FnExactSketchSolve.j0 k t362 t365 t366 t374 t377 t378 (!t382) a0_0 l0_1 t369 t370)) else (laws_FnExactSketchSolve.j0 k t362 t365 t366 t374 t377 t378 true a0_0 l0_1 t369 t370)) = some r := by rw [if_pos rfl] at H; exact H
    clear H
    have H := H1
    clear H1
    by_cases c28 : t377 = t365
    ·rw [if_pos c28] at H
     have c28b0 : (t377 == t365) = true := beq_iff_eq.mpr c28
     have c28b1 : (t377 != t365) = false := bne_eq_false_iff_eq.mpr c28
     clear c28
     (first | rw [c28b0] | (simp only [i64_w, i32_w]; rw [c28b0]) | skip)
     replace H := Option.bind_eq_some_iff.mp H
     obtain ⟨t382, A290, H⟩ := H
     replace H : (laws_FnExactSketchSolve.j0 k t362 t365 t366 t374 t377 t378 (!t382) a0_0 l0_1 t369 t370) = some r := H
     have A29 := zA A290
     clear A290
     have H' := zA H
     clear H
     obtain ⟨Ao30, co30, eo30⟩ := Kd.R_slice HO376.out
     subst eo30
     obtain ⟨Ao31, co31, eo31⟩ := Kd.R_slice HO364.out
     subst eo31
     go_wp2_with (first | ((with_reducible refine gate_callee (f := 23) rfl ?_); refine goesL_ (some 39) rfl rfl Try.func23 (by kernel_rfl) rfl #[.slice Ao30 t374.length co30, .slice Ao31 t362.length co31] rfl (by (try simp only [List.map_toArray, List.map_cons, List.map_nil]); first | done | rfl | (simp only [List.length_drop, List.length_take]; rfl)) ?_; (with_reducible refine (laws_eqPointS.calls k _ _ t374 _ _ t362 true _ ?side1 ?side2 ?side3 ?side4 A26.out).mono ?_); (case side1 => repeat (first | exact (zK HO376.out).2.2 | (with_reducible refine zI ?_ _) | (with_reducible refine zH ?_ _) | (with_reducible refine zJ ?_))); (case side2 => exact (zK HO376.out).2.1); (case side3 => repeat (first | exact (zK HO364.out).2.2 | (with_reducible refine zI ?_ _) | (with_reducible refine zH ?_ _) | (with_reducible refine zJ ?_))); (case side4 => exact (zK HO364.out).2.1); rintro e w32 ⟨rfl, hb⟩; refine ⟨_, rfl, ?_⟩; have n0_ := zA (zL (by (with_reducible repeat (first | apply zF | apply zE | apply zG)); exact HO361.out) hb); have n1_ := zA (zL (by (with_reducible repeat (first | apply zF | apply zE | apply zG)); exact HO364.out) hb); have n2_ := zA (zL (by (with_reducible repeat (first | apply zF | apply zE | apply zG)); exact HO368.out) hb); have n3_ := zA (zL (by (with_reducible repeat (first | apply zF | apply zE | apply zG)); exact HO372.out) hb); have n4_ := zA (zL (by (with_reducible repeat (first | apply zF | apply zE | apply zG)); exact HO376.out) hb); have n5_ := zA (zL (by (with_reducible repeat (first | apply zF | apply zE | apply zG)); exact HO380.out) hb); have n6_ := zA (zU (g := gb356) (o := .cells #[.int .i64 a0_0, .slice A0_1 l0_1.length c0_1] 39 (0, 0)) (by (with_reducible repeat (first | refine zM ?_ _ | refine zN ?_ | refine zO ?_ _)); exact BK356.out) hb); have n7_ := zA (zU (g := gb373) (o := .cells #[.int .i64 t369, .slice Ao24 t370.length co24] 25 (0, 0)) (by (with_reducible repeat (first | refine zM ?_ _ | refine zN ?_ | refine zO ?_ _)); exact BK373.out) hb); have n8_ := zA (below_step (by repeat (first | (with_reducible first | exact HB.out | apply zR | apply zP | apply zQ | refine zS ?_ GE356.out | refine zS ?_ GE373.out) | exact HB.out)) hb); clear HO361; clear HO364; clear HO368; clear HO372; clear HO376; clear HO380; clear BK356; clear BK373; clear HB; have HO361 := n0_; have HO364 := n1_; have HO368 := n2_; have HO372 := n3_; have HO376 := n4_; have HO380 := n5_; have BK356 := n6_; have BK373 := n7_; have HB := n8_; clear n0_ n1_ n2_ n3_ n4_ n5_ n6_ n7_ n8_; (try clear hb); (try clear hb2); (try clear hk); (try clear hi); obtain ⟨Ao33, co33, eo33⟩ := Kd.R_slice HO380.out; subst eo33; obtain ⟨Ao34, co34, eo34⟩ := Kd.R_slice HO368.out; subst eo34) | (go_at_call 24; (with_reducible refine (laws_eqIntS.calls k _ _ t378 _ _ t366 t382 _ ?side1 ?side2 ?side3 ?side4 A29.out).mono ?_); (case side1 => repeat (first | exact (zK HO380.out).2.2 | (with_reducible refine zI ?_ _) | (with_reducible refine zH ?_ _) | (with_reducible refine zJ ?_))); (case side2 => exact (zK HO380.out).2.1); (case side3 => repeat (first | exact (zK HO368.out).2.2 | (with_reducible refine zI ?_ _) | (with_reducible refine zH ?_ _) | (with_reducible refine zJ ?_))); (case side4 => exact (zK HO368.out).2.1); rintro e w' ⟨rfl, ⟨nd, rfl⟩⟩))
     go_meet
     case rel => exact ⟨_, (!t382), (by first | rfl | (simp; done) | (simp [*]; done)), H', ⟨by first | omega | exact Nat.le_refl _⟩, ⟨by (with_reducible repeat (first | apply zF | apply zE | apply zG)); exact Kd.R_mono HO364.out (fun _ hk => hk.2)⟩, ⟨by (with_reducible repeat (first | apply zF | apply zE | apply zG)); exact Kd.R_mono HO368.out (fun _ hk => hk.2)⟩, ⟨by (with_reducible repeat (first | apply zF | apply zE | apply zG)); exact Kd.R_mono HO376.out (fun _ hk => hk.2)⟩, ⟨by (with_reducible repeat (first | apply zF | apply zE | apply zG)); exact Kd.R_mono HO380.out (fun _ hk => hk.2)⟩, ⟨by (with_reducible repeat (first | apply zF | apply zE | apply zG)); exact Kd.R_mono HO372.out (fun _ hk => trivial)⟩, ⟨by (with_reducible repeat (first | refine zM ?_ _ | refine zN ?_ | refine zO ?_ _)); exact BK356.out⟩, ⟨by (with_reducible repeat (first | refine zM ?_ _ | refine zN ?_ | refine zO ?_ _)); exact BK373.out⟩, ⟨by repeat (first | (with_reducible first | exact HB.out | apply zR | apply zP | apply zQ | refine zS ?_ GE356.out | refine zS ?_ GE373.out) | exact HB.out)⟩⟩
    ·rw [if_neg c28] at H
     have c28b0 : (t377 == t365) = false := beq_eq_false_iff_ne.mpr c28
     have c28b1 : (t377 != t365) = true := bne_iff_ne.mpr c28
     (first | rw [c28b0] | (simp only [i64_w, i32_w]; rw [c28b0]) | skip)
     have H' := zA H
     clear H
     obtain ⟨Ao35, co35, eo35⟩ := Kd.R_slice HO376.out
     subst eo35
     obtain ⟨Ao36, co36, eo36⟩ := Kd.R_slice HO364.out
     subst eo36
     go_wp2_with (first | ((with_reducible refine gate_callee (f := 23) rfl ?_); refine goesL_ (some 39) rfl rfl Try.func23 (by kernel_rfl) rfl #[.slice Ao35 t374.length co35, .slice Ao36 t362.length co36] rfl (by (try simp only [List.map_toArray, List.map_cons, List.map_nil]); first | done | rfl | (simp only [List.length_drop, List.length_take]; rfl)) ?_; (with_reducible refine (laws_eqPointS.calls k _ _ t374 _ _ t362 true _ ?side1 ?side2 ?side3 ?side4 A26.out).mono ?_); (case side1 => repeat (first | exact (zK HO376.out).2.2 | (with_reducible refine zI ?_ _) | (with_reducible refine zH ?_ _) | (with_reducible refine zJ ?_))); (case side2 => exact (zK HO376.out).2.1); (case side3 => repeat (first | exact (zK HO364.out).2.2 | (with_reducible refine zI ?_ _) | (with_reducible refine zH ?_ _) | (with_reducible refine zJ ?_))); (case side4 => exact (zK HO364.out).2.1); rintro e w37 ⟨rfl, hb⟩; refine ⟨_, rfl, ?_⟩; have n0_ := zA (zL (by (with_reducible repeat (first | apply zF | apply zE | apply zG)); exact HO361.out) hb); have n1_ := zA (zL (by (with_reducible repeat (first | apply zF | apply zE | apply zG)); exact HO364.out) hb); have n2_ := zA (zL (by (with_reducible repeat (first | apply zF | apply zE | apply zG)); exact HO368.out) hb); have n3_ := zA (zL (by (with_reducible repeat (first | apply zF | apply zE | apply zG)); exact HO372.out) hb); have n4_ := zA (zL (by (with_reducible repeat (first | apply zF | apply zE | apply zG)); exact HO376.out) hb); have n5_ := zA (zL (by (with_reducible repeat (first | apply zF | apply zE | apply zG)); exact HO380.out) hb); have n6_ := zA (zU (g := gb356) (o := .cells #[.int .i64 a0_0, .slice A0_1 l0_1.length c0_1] 39 (0, 0)) (by (with_reducible repeat (first | refine zM ?_ _ | refine zN ?_ | refine zO ?_ _)); exact BK356.out) hb); have n7_ := zA (zU (g := gb373) (o := .cells #[.int .i64 t369, .slice Ao24 t370.length co24] 25 (0, 0)) (by (with_reducible repeat (first | refine zM ?_ _ | refine zN ?_ | refine zO ?_ _)); exact BK373.out) hb); have n8_ := zA (below_step (by repeat (first | (with_reducible first | exact HB.out | apply zR | apply zP | apply zQ | refine zS ?_ GE356.out | refine zS ?_ GE373.out) | exact HB.out)) hb); clear HO361; clear HO364; clear HO368; clear HO372; clear HO376; clear HO380; clear BK356; clear BK373; clear HB; have HO361 := n0_; have HO364 := n1_; have HO368 := n2_; have HO372 := n3_; have HO376 := n4_; have HO380 := n5_; have BK356 := n6_; have BK373 := n7_; have HB := n8_; clear n0_ n1_ n2_ n3_ n4_ n5_ n6_ n7_ n8_; (try clear hb); (try clear hb2); (try clear hk); (try clear hi)))
     go_meet
     case rel => exact ⟨_, (true), (by first | rfl | (simp; done) | (simp [*]; done)), H', ⟨by first | omega | exact Nat.le_refl _⟩, ⟨by (with_reducible repeat (first | apply zF | apply zE | apply zG)); exact Kd.R_mono HO364.out (fun _ hk => hk.2)⟩, ⟨by (with_reducible repeat (first | apply zF | apply zE | apply zG)); exact Kd.R_mono HO368.out (fun _ hk => hk.2)⟩, ⟨by (with_reducible repeat (first | apply zF | apply zE | apply zG)); exact Kd.R_mono HO376.out (fun _ hk => hk.2)⟩, ⟨by (with_reducible repeat (first | apply zF | apply zE | apply zG)); exact Kd.R_mono HO380.out (fun _ hk => hk.2)⟩, ⟨by (with_reducible repeat (first | apply zF | apply zE | apply zG)); exact Kd.R_mono HO372.out (fun _ hk => trivial)⟩, ⟨by (with_reducible repeat (first | refine zM ?_ _ | refine zN ?_ | refine zO ?_ _)); exact BK356.out⟩, ⟨by (with_reducible repeat (first | refine zM ?_ _ | refine zN ?_ | refine zO ?_ _)); exact BK373.out⟩, ⟨by repeat (first | (with_reducible first | exact HB.out | apply zR | apply zP | apply zQ | refine zS ?_ GE356.out | refine zS ?_ GE373.out) | exact HB.out)⟩⟩
   ·replace c27 := Bool.eq_false_iff.mpr c27
    subst c27
    have H1 : (laws_FnExactSketchSolve.j0 k t362 t365 t366 t374 t377 t378 true a0_0 l0_1 t369 t370) = some r := by rw [if_neg (show ¬ (false = true) by decide)] at H; exact H
    clear H
    have H := H1
    clear H1
    have H' := zA H
    clear H
    obtain ⟨Ao38, co38, eo38⟩ := Kd.R_slice HO376.out
    subst eo38
    obtain ⟨Ao39, co39, eo39⟩ := Kd.R_slice HO364.out
    subst eo39
    go_wp2_with (first | ((with_reducible refine gate_callee (f := 23) rfl ?_); refine goesL_ (some 39) rfl rfl Try.func23 (by kernel_rfl) rfl #[.slice Ao38 t374.length co38, .slice Ao39 t362.length co39] rfl (by (try simp only [List.map_toArray, List.map_cons, List.map_nil]); first | done | rfl | (simp only [List.length_drop, List.length_take]; rfl)) ?_; (with_reducible refine (laws_eqPointS.calls k _ _ t374 _ _ t362 false _ ?side1 ?side2 ?side3 ?side4 A26.out).mono ?_); (case side1 => repeat (first | exact (zK HO376.out).2.2 | (with_reducible refine zI ?_ _) | (with_reducible refine zH ?_ _) | (with_reducible refine zJ ?_))); (case side2 => exact (zK HO376.out).2.1); (case side3 => repeat (first | exact (zK HO364.out).2.2 | (with_reducible refine zI ?_ _) | (with_reducible refine zH ?_ _) | (with_reducible refine zJ ?_))); (case side4 => exact (zK HO364.out).2.1); rintro e w40 ⟨rfl, hb⟩; refine ⟨_, rfl, ?_⟩; have n0_ := zA (zL (by (with_reducible repeat (first | apply zF | apply zE | apply zG)); exact HO361.out) hb); have n1_ := zA (zL (by (with_reducible repeat (first | apply zF | apply zE | apply zG)); exact HO364.out) hb); have n2_ := zA (zL (by (with_reducible repeat (first | apply zF | apply zE | apply zG)); exact HO368.out) hb); have n3_ := zA (zL (by (with_reducible repeat (first | apply zF | apply zE | apply zG)); exact HO372.out) hb); have n4_ := zA (zL (by (with_reducible repeat (first | apply zF | apply zE | apply zG)); exact HO376.out) hb); have n5_ := zA (zL (by (with_reducible repeat (first | apply zF | apply zE | apply zG)); exact HO380.out) hb); have n6_ := zA (zU (g := gb356) (o := .cells #[.int .i64 a0_0, .slice A0_1 l0_1.length c0_1] 39 (0, 0)) (by (with_reducible repeat (first | refine zM ?_ _ | refine zN ?_ | refine zO ?_ _)); exact BK356.out) hb); have n7_ := zA (zU (g := gb373) (o := .cells #[.int .i64 t369, .slice Ao24 t370.length co24] 25 (0, 0)) (by (with_reducible repeat (first | refine zM ?_ _ | refine zN ?_ | refine zO ?_ _)); exact BK373.out) hb); have n8_ := zA (below_step (by repeat (first | (with_reducible first | exact HB.out | apply zR | apply zP | apply zQ | refine zS ?_ GE356.out | refine zS ?_ GE373.out) | exact HB.out)) hb); clear HO361; clear HO364; clear HO368; clear HO372; clear HO376; clear HO380; clear BK356; clear BK373; clear HB; have HO361 := n0_; have HO364 := n1_; have HO368 := n2_; have HO372 := n3_; have HO376 := n4_; have HO380 := n5_; have BK356 := n6_; have BK373 := n7_; have HB := n8_; clear n0_ n1_ n2_ n3_ n4_ n5_ n6_ n7_ n8_; (try clear hb); (try clear hb2); (try clear hk); (try clear hi)))
    go_meet
    case rel => exact ⟨_, (true), (by first | rfl | (simp; done) | (simp [*]; done)), H', ⟨by first | omega | exact Nat.le_refl _⟩, ⟨by (with_reducible repeat (first | apply zF | apply zE | apply zG)); exact Kd.R_mono HO364.out (fun _ hk => hk.2)⟩, ⟨by (with_reducible repeat (first | apply zF | apply zE | apply zG)); exact Kd.R_mono HO368.out (fun _ hk => hk.2)⟩, ⟨by (with_reducible repeat (first | apply zF | apply zE | apply zG)); exact Kd.R_mono HO376.out (fun _ hk => hk.2)⟩, ⟨by (with_reducible repeat (first | apply zF | apply zE | apply zG)); exact Kd.R_mono HO380.out (fun _ hk => hk.2)⟩, ⟨by (with_reducible repeat (first | apply zF | apply zE | apply zG)); exact Kd.R_mono HO372.out (fun _ hk => trivial)⟩, ⟨by (with_reducible repeat (first | refine zM ?_ _ | refine zN ?_ | refine zO ?_ _)); exact BK356.out⟩, ⟨by (with_reducible repeat (first | refine zM ?_ _ | refine zN ?_ | refine zO ?_ _)); exact BK373.out⟩, ⟨by repeat (first | (with_reducible first | exact HB.out | apply zR | apply zP | apply zQ | refine zS ?_ GE356.out | refine zS ?_ GE373.out) | exact HB.out)⟩⟩
  case rest =>
   clear HC11
   try clear c1
   try clear c2
   try clear p2
   try clear c3
   try clear c3b0
   try clear c6
   try clear c9
   try clear c10
   try clear c15
   try clear c17
   try clear c22
   try clear c23
   try clear c27
   try clear c28
   try clear c28b0
   try clear c28b1
   try clear hcz13_0
   try clear hcz13_1
   try clear hcz15_0
   try clear hcz15_1
   try clear hcz19_0
   try clear hcz19_1
   try clear hcz23_0
   try clear hcz23_1
   try clear hcz5_0
   try clear hcz5_1
   try clear hfz13_0
   try clear hfz13_1
   try clear hfz15_0
   try clear hfz15_1
   try clear hfz19_0
   try clear hfz19_1
   try clear hfz23_0
   try clear hfz23_1
   try clear hfz5_0
   try clear hfz5_1
   obtain ⟨kq, x51_10, rfl, HA, HJ10, HO_4, HO_6, HO_8, HO_10, HO_374001, BK356, BK373, HB⟩ := hcut
   cases kq with
   | zero => exact absurd HA.out (by simp [laws_FnExactSketchSolve.j0])
   | succ kj10 =>
    have H := HA.out
    clear HA
    simp only [laws_FnExactSketchSolve.j0] at H
    by_cases c41 : x51_10 = true
    ·subst c41
     have H1 : (some false) = some r := by rw [if_pos rfl] at H; exact H
     clear H
     have H := H1
     clear H1
     obtain rfl := Option.some.inj H
     go_wp2
     go_ret
     exact ⟨by first | rfl | (simp [errW_none, errW_some] <;> rfl) | (simp [*, errW_none, errW_some] <;> rfl), by repeat (first | (with_reducible first | exact HB.out | apply zR | apply zP | apply zQ | refine zS ?_ GE356.out | refine zS ?_ GE373.out) | exact HB.out)⟩
    ·replace c41 := Bool.eq_false_iff.mpr c41
     subst c41
     have H1 : ((laws_toSketch.f kj10 a0_0 l0_1).bind fun bt383 => ((laws_eqSketch.f kj10 t369 t370 bt383.1 bt383.2).bind fun t387 => (if t387 = true then ((laws_markSketch.f kj10 t369 t370 1).bind fun bt388 => (if bt388.1 < 0 then (laws_FnExactSketchSolve.j1 kj10 t362 t365 t366 t374 t378 true a0_0 l0_1) else ((laws_eqPointS.f kj10 t374 t362).bind fun t390 => (if t390 = true then (if t377 = t365 then ((laws_eqIntS.f kj10 t378 t366).bind fun t391 => (laws_FnExactSketchSolve.j1 kj10 t362 t365 t366 t374 t378 (!t391) a0_0 l0_1)) else (laws_FnExactSketchSolve.j1 kj10 t362 t365 t366 t374 t378 true a0_0 l0_1)) else (laws_FnExactSketchSolve.j1 kj10 t362 t365 t366 t374 t378 true a0_0 l0_1))))) else (some false)))) = some r := by rw [if_neg (show ¬ (false = true) by decide)] at H; exact H
     clear H
     have H := H1
     clear H1
     replace H := Option.bind_eq_some_iff.mp H
     obtain ⟨⟨t383, t384⟩, A420, H⟩ := H
     replace H : ((laws_eqSketch.f kj10 t369 t370 t383 t384).bind fun t387 => (if t387 = true then ((laws_markSketch.f kj10 t369 t370 1).bind fun bt388 => (if bt388.1 < 0 then (laws_FnExactSketchSolve.j1 kj10 t362 t365 t366 t374 t378 true a0_0 l0_1) else ((laws_eqPointS.f kj10 t374 t362).bind fun t390 => (if t390 = true then (if t377 = t365 then ((laws_eqIntS.f kj10 t378 t366).bind fun t391 => (laws_FnExactSketchSolve.j1 kj10 t362 t365 t366 t374 t378 (!t391) a0_0 l0_1)) else (laws_FnExactSketchSolve.j1 kj10 t362 t365 t366 t374 t378 true a0_0 l0_1)) else (laws_FnExactSketchSolve.j1 kj10 t362 t365 t366 t374 t378 true a0_0 l0_1))))) else (some false))) = some r := H
     have A42 := zA A420
     clear A420
     replace H := Option.bind_eq_some_iff.mp H
     obtain ⟨t387, A430, H⟩ := H
     replace H : (if t387 = true then ((laws_markSketch.f kj10 t369 t370 1).bind fun bt388 => (if bt388.1 < 0 then (laws_FnExactSketchSolve.j1 kj10 t362 t365 t366 t374 t378 true a0_0 l0_1) else ((laws_eqPointS.f kj10 t374 t362).bind fun t390 => (if t390 = true then (if t377 = t365 then ((laws_eqIntS.f kj10 t378 t366).bind fun t391 => (laws_FnExactSketchSolve.j1 kj10 t362 t365 t366 t374 t378 (!t391) a0_0 l0_1)) else (laws_FnExactSketchSolve.j1 kj10 t362 t365 t366 t374 t378 true a0_0 l0_1)) else (laws_FnExactSketchSolve.j1 kj10 t362 t365 t366 t374 t378 true a0_0 l0_1))))) else (some false)) = some r := H
     have A43 := zA A430
     clear A430
     by_cases c44 : t387 = true
     ·subst c44
      have H1 : ((laws_markSketch.f kj10 t369 t370 1).bind fun bt388 => (if bt388.1 < 0 then (laws_FnExactSketchSolve.j1 kj10 t362 t365 t366 t374 t378 true a0_0 l0_1) else ((laws_eqPointS.f kj10 t374 t362).bind fun t390 => (if t390 = true then (if t377 = t365 then ((laws_eqIntS.f kj10 t378 t366).bind fun t391 => (laws_FnExactSketchSolve.j1 kj10 t362 t365 t366 t374 t378 (!t391) a0_0 l0_1)) else (laws_FnExactSketchSolve.j1 kj10 t362 t365 t366 t374 t378 true a0_0 l0_1)) else (laws_FnExactSketchSolve.j1 kj10 t362 t365 t366 t374 t378 true a0_0 l0_1))))) = some r := by rw [if_pos rfl] at H; exact H
      clear H
      have H := H1
      clear H1
      replace H := Option.bind_eq_some_iff.mp H
      obtain ⟨⟨t388, t389⟩, A450, H⟩ := H
      replace H : (if t388 < 0 then (laws_FnExactSketchSolve.j1 kj10 t362 t365 t366 t374 t378 true a0_0 l0_1) else ((laws_eqPointS.f kj10 t374 t362).bind fun t390 => (if t390 = true then (if t377 = t365 then ((laws_eqIntS.f kj10 t378 t366).bind fun t391 => (laws_FnExactSketchSolve.j1 kj10 t362 t365 t366 t374 t378 (!t391) a0_0 l0_1)) else (laws_FnExactSketchSolve.j1 kj10 t362 t365 t366 t374 t378 true a0_0 l0_1)) else (laws_FnExactSketchSolve.j1 kj10 t362 t365 t366 t374 t378 true a0_0 l0_1)))) = some r := H
      have A45 := zA A450
      clear A450
      have HC46 := zA H
      clear H
      try go_wp2
      have n0_ := zA (zG HO_4.out)
      have n1_ := zA (zG HO_6.out)
      have n2_ := zA (zG HO_8.out)
      have n3_ := zA (zG HO_10.out)
      have n4_ := zA (zG HO_374001.out)
      have n5_ := zA (zN BK356.out)
      have n6_ := zA (zN BK373.out)
      have n7_ := zA (zQ HB.out)
      clear HO_4
      clear HO_6
      clear HO_8
      clear HO_10
      clear HO_374001
      clear BK356
      clear BK373
      clear HB
      have HO_4 := n0_
      have HO_6 := n1_
      have HO_8 := n2_
      have HO_10 := n3_
      have HO_374001 := n4_
      have BK356 := n5_
      have BK373 := n6_
      have HB := n7_
      clear n0_ n1_ n2_ n3_ n4_ n5_ n6_ n7_
      refine start_ (n := 5) (S := fun w' => w'.cell? ⟨gb373, 0, none⟩ = some (.int .i64 t369) ∧ w'.cell? ⟨gb373, 1, none⟩ = some (.slice Ao24 t370.length co24) ∧ w'.cell? ⟨gb356, 0, none⟩ = some (.int .i64 a0_0) ∧ w'.cell? ⟨gb356, 1, none⟩ = some (.slice A0_1 l0_1.length c0_1)) (ds := []) #[false, false, false, false, false] (by kernel_rfl) rfl rfl ⟨(blk_cell BK373.out 0).trans rfl, (blk_cell BK373.out 1).trans rfl, (blk_cell BK356.out 0).trans rfl, (blk_cell BK356.out 1).trans rfl⟩ (fun hHeld => ?_)
      generalize wc.drew = w47 at HO_4 HO_6 HO_8 HO_10 HO_374001 BK356 BK373 HB hHeld ⊢
      refine take_ (i := 0) (N := some 52) (v := ?_) (a' := ?_) #[true, false, false, false, false] rfl rfl (by kernel_rfl) (fun _ _ _ h => h) (Or.inl ⟨by rfl, ?_⟩) hHeld ?_ ?_
      rotate_left
      ·rintro w' ⟨s0, s1, s2, s3⟩
       go_simp
       with_reducible rfl
      rotate_left
      ·simp only [Act.put, zB, zC, zD, i64_w, i32_w]
       rfl
      refine take_ (i := 1) (N := some 53) (v := ?_) (a' := ?_) #[true, true, false, false, false] rfl rfl (by kernel_rfl) (fun _ _ _ h => h) (Or.inl ⟨by rfl, ?_⟩) hHeld ?_ ?_
      rotate_left
      ·rintro w' ⟨s0, s1, s2, s3⟩
       go_simp
       with_reducible rfl
      rotate_left
      ·simp only [Act.put, zB, zC, zD, i64_w, i32_w]
       rfl
      refine one_ (i := 2) (N := some 54) #[true, true, true, false, false] rfl rfl (by kernel_rfl) (by decide) (fun K hK => ?_)
      refine goes_ Try.func17 (by kernel_rfl) rfl #[.agg #[.int .i64 a0_0, .slice A0_1 l0_1.length c0_1]] (by rfl) rfl rfl (by (try simp only [List.map_toArray, List.map_cons, List.map_nil]); first | done | rfl | (simp only [List.length_drop, List.length_take]; rfl)) ?_
      with_reducible refine (laws_toSketch.calls kj10 a0_0 _ _ l0_1 t383 t384 _ ?side1 ?side2 A42.out).mono ?_
      (case side1 => repeat (first | exact (Kd.C_below HR0_1.out HB.out) | (with_reducible refine zI ?_ _) | (with_reducible refine zH ?_ _) | (with_reducible refine zJ ?_)))
      (case side2 => exact HC0_1.out)
      rintro e w48 ⟨v385, rfl, ho0, hb⟩
      refine ⟨_, rfl, ?_⟩
      have n0_ := zA (zL (by (with_reducible repeat (first | apply zF | apply zE | apply zG)); exact HO_4.out) hb)
      have n1_ := zA (zL (by (with_reducible repeat (first | apply zF | apply zE | apply zG)); exact HO_6.out) hb)
      have n2_ := zA (zL (by (with_reducible repeat (first | apply zF | apply zE | apply zG)); exact HO_8.out) hb)
      have n3_ := zA (zL (by (with_reducible repeat (first | apply zF | apply zE | apply zG)); exact HO_10.out) hb)
      have n4_ := zA (Kd.R_elder' (by (with_reducible repeat (first | apply zF | apply zE | apply zG)); exact HO_374001.out) (Kd.R_base ho0) hb)
      have n5_ := zA (Kd.R_lower (Kd.R_new' ho0 (Kd.R_lt (by (with_reducible repeat (first | apply zF | apply zE | apply zG)); exact HO_374001.out))) (zT (by repeat (first | (with_reducible first | exact HB.out | apply zR | apply zP | apply zQ | refine zS ?_ GE356.out | refine zS ?_ GE373.out) | exact HB.out))))
      have n6_ := zA (zU (g := gb356) (o := .cells #[.int .i64 a0_0, .slice A0_1 l0_1.length c0_1] 39 (0, 0)) (by (with_reducible repeat (first | refine zM ?_ _ | refine zN ?_ | refine zO ?_ _)); exact BK356.out) hb)
      have n7_ := zA (zU (g := gb373) (o := .cells #[.int .i64 t369, .slice Ao24 t370.length co24] 25 (0, 0)) (by (with_reducible repeat (first | refine zM ?_ _ | refine zN ?_ | refine zO ?_ _)); exact BK373.out) hb)
      have n8_ := zA (below_step (by repeat (first | (with_reducible first | exact HB.out | apply zR | apply zP | apply zQ | refine zS ?_ GE356.out | refine zS ?_ GE373.out) | exact HB.out)) hb)
      clear HO_4
      clear HO_6
      clear HO_8
      clear HO_10
      clear HO_374001
      clear BK356
      clear BK373
      clear HB
      have HO_4 := n0_
      have HO_6 := n1_
      have HO_8 := n2_
      have HO_10 := n3_
      have HO_374001 := n4_
      have HO386 := n5_
      have BK356 := n6_
      have BK373 := n7_
      have HB := n8_
      clear n0_ n1_ n2_ n3_ n4_ n5_ n6_ n7_ n8_
      (try clear hb)
      (try clear hb2)
      (try clear hk)
      (try clear hi)
      (try clear ho0)
      obtain ⟨Ao49, co49, eo49⟩ := Kd.R_slice HO386.out
      (first | subst eo49 | (injection eo49 with f1_ f2_ f3_; have f4_ := f1_.symm; have f5_ := f3_.symm; clear f1_ f2_ f3_; subst f4_; subst f5_))
      refine hK.out _ _ ⟨(blk_cell BK373.out 0).trans rfl, (blk_cell BK373.out 1).trans rfl, (blk_cell BK356.out 0).trans rfl, (blk_cell BK356.out 1).trans rfl⟩ (fun hHeld => ?_)
      clear hK K
      refine norm_ (a' := ?_) ?_ ?_
      rotate_left
      ·show Act.put _ (some 54) _ = _
       simp only [Act.put, zB, zC, zD, i64_w, i32_w]
       rfl
      refine one_ (i := 3) (N := some 55) #[true, true, true, true, false] rfl rfl (by kernel_rfl) (by decide) (fun K hK => ?_)
      refine goes_ Try.func19 (by kernel_rfl) rfl #[.agg #[.int .i64 t369, .slice Ao24 t370.length co24], .agg #[.int .i64 t383, .slice Ao49 t384.length co49]] (by rfl) rfl rfl (by (try simp only [List.map_toArray, List.map_cons, List.map_nil]); first | done | rfl | (simp only [List.length_drop, List.length_take]; rfl)) ?_
      with_reducible refine (laws_eqSketch.calls kj10 t369 _ _ t370 t383 _ _ t384 true _ ?side1 ?side2 ?side3 ?side4 A43.out).mono ?_
      (case side1 => repeat (first | exact (zK HO_374001.out).2.2 | (with_reducible refine zI ?_ _) | (with_reducible refine zH ?_ _) | (with_reducible refine zJ ?_)))
      (case side2 => exact (zK HO_374001.out).2.1)
      (case side3 => repeat (first | exact (zK HO386.out).2.2 | (with_reducible refine zI ?_ _) | (with_reducible refine zH ?_ _) | (with_reducible refine zJ ?_)))
      (case side4 => exact (zK HO386.out).2.1)
      rintro e w50 ⟨rfl, hb⟩
      refine ⟨_, rfl, ?_⟩
      have n0_ := zA (zL (by (with_reducible repeat (first | apply zF | apply zE | apply zG)); exact HO_4.out) hb)
      have n1_ := zA (zL (by (with_reducible repeat (first | apply zF | apply zE | apply zG)); exact HO_6.out) hb)
      have n2_ := zA (zL (by (with_reducible repeat (first | apply zF | apply zE | apply zG)); exact HO_8.out) hb)
      have n3_ := zA (zL (by (with_reducible repeat (first | apply zF | apply zE | apply zG)); exact HO_10.out) hb)
      have n4_ := zA (zL (by (with_reducible repeat (first | apply zF | apply zE | apply zG)); exact HO_374001.out) hb)
      have n5_ := zA (zL (by (with_reducible repeat (first | apply zF | apply zE | apply zG)); exact HO386.out) hb)
      have n6_ := zA (zU (g := gb356) (o := .cells #[.int .i64 a0_0, .slice A0_1 l0_1.length c0_1] 39 (0, 0)) (by (with_reducible repeat (first | refine zM ?_ _ | refine zN ?_ | refine zO ?_ _)); exact BK356.out) hb)
      have n7_ := zA (zU (g := gb373) (o := .cells #[.int .i64 t369, .slice Ao24 t370.length co24] 25 (0, 0)) (by (with_reducible repeat (first | refine zM ?_ _ | refine zN ?_ | refine zO ?_ _)); exact BK373.out) hb)
      have n8_ := zA (below_step (by repeat (first | (with_reducible first | exact HB.out | apply zR | apply zP | apply zQ | refine zS ?_ GE356.out | refine zS ?_ GE373.out) | exact HB.out)) hb)
      clear HO_4
      clear HO_6
      clear HO_8
      clear HO_10
      clear HO_374001
      clear HO386
      clear BK356
      clear BK373
      clear HB
      have HO_4 := n0_
      have HO_6 := n1_
      have HO_8 := n2_
      have HO_10 := n3_
      have HO_374001 := n4_
      have HO386 := n5_
      have BK356 := n6_
      have BK373 := n7_
      have HB := n8_
      clear n0_ n1_ n2_ n3_ n4_ n5_ n6_ n7_ n8_
      (try clear hb)
      (try clear hb2)
      (try clear hk)
      (try clear hi)
      refine hK.out _ _ ⟨(blk_cell BK373.out 0).trans rfl, (blk_cell BK373.out 1).trans rfl, (blk_cell BK356.out 0).trans rfl, (blk_cell BK356.out 1).trans rfl⟩ (fun hHeld => ?_)
      clear hK K
      refine norm_ (a' := ?_) ?_ ?_
      rotate_left
      ·show Act.put _ (some 55) _ = _
       simp only [Act.put, zB, zC, zD, i64_w, i32_w]
       rfl
      refine pure_ (i := 4) (N := some 56) (v := ?_) (a' := ?_) #[true, true, true, true, true] rfl rfl (by kernel_rfl) (fun _ _ _ h => h) (Or.inl ⟨by rfl, ?_⟩) ?_ ?_
      rotate_left
      ·intro w'
       go_simp
       with_reducible rfl
      rotate_left
      ·simp only [Act.put, zB, zC, zD, i64_w, i32_w]
       rfl
      refine done_ (by kernel_rfl) ?_
      have hnb51 := NB373_356.out
      have hnc51 := NB356_373.out
      have hcz52_0 : w50.cell? ⟨gb373, 0, none⟩ = some (.int .i64 t369) := (blk_cell BK373.out 0).trans rfl
      have hcz52_1 : w50.cell? ⟨gb373, 1, none⟩ = some (.slice Ao24 t370.length co24) := (blk_cell BK373.out 1).trans rfl
      have hfz52_0 := blk_frozen BK373.out 0
      have hfz52_1 := blk_frozen BK373.out 1
      go_upto_region 14 with (first | ((with_reducible refine gate_callee (f := 25) rfl ?_); refine goesL_ (some 59) rfl rfl Try.func25 (by kernel_rfl) rfl #[.agg #[.int .i64 t369, .slice Ao24 t370.length co24], .int .i64 1] rfl (by (try simp only [List.map_toArray, List.map_cons, List.map_nil]); first | done | rfl | (simp only [List.length_drop, List.length_take]; rfl)) ?_; (with_reducible refine (laws_markSketch.calls kj10 t369 (fun k_ => some k_ = (.slice Ao24 t370.length co24 : Value).ownBlock) (.slice Ao24 t370.length co24) t370 1 t388 t389 w _ ?side1 ?side2 A45.out).mono ?_); (case side1 => repeat (first | (with_reducible first | exact HB.out | apply zR | apply zP | apply zQ | refine zS ?_ GE356.out | refine zS ?_ GE373.out) | exact HB.out)); (case side2 => exact Kd.R_tight rfl HO_374001.out); rintro e w53 ⟨rfl, hy0, hb, hkp⟩; refine ⟨_, rfl, ?_⟩; have n0_ := zA (Kd.R_mono (ok' := fun k_ => some k_ ≠ (v375 : Value).ownBlock) (Kd.R_keptB ((Kd.R_apart' HO_4.out (Kd.R_typed HO_374001.out) (by decide))) hkp (fun k_ hk_ hs_ => (hk_.2) hs_)) (fun k_ hk_ => hk_.1.1)); have n1_ := zA (Kd.R_mono (ok' := fun k_ => some k_ ≠ (v379 : Value).ownBlock) (Kd.R_keptB ((Kd.R_apart' HO_6.out (Kd.R_typed HO_374001.out) (by decide))) hkp (fun k_ hk_ hs_ => (hk_.2) hs_)) (fun k_ hk_ => hk_.1.1)); have n2_ := zA (Kd.R_mono (ok' := fun k_ => some k_ ≠ (v363 : Value).ownBlock) (Kd.R_keptB ((Kd.R_apart' HO_8.out (Kd.R_typed HO_374001.out) (by decide))) hkp (fun k_ hk_ hs_ => (hk_.2) hs_)) (fun k_ hk_ => hk_.1.1)); have n3_ := zA (Kd.R_mono (ok' := fun k_ => some k_ ≠ (v367 : Value).ownBlock) (Kd.R_keptB ((Kd.R_apart' HO_10.out (Kd.R_typed HO_374001.out) (by decide))) hkp (fun k_ hk_ hs_ => (hk_.2) hs_)) (fun k_ hk_ => hk_.1.1)); have n4_ := zA (Kd.R_reok rfl hy0 (fun k_ e_ => HO_374001.out.1 k_ e_)); have n5_ := zA (blk_kept (by (with_reducible repeat (first | refine zM ?_ _ | refine zN ?_ | refine zO ?_ _)); exact BK356.out) hkp (fun hs_ => (fun e_ => (Kd.R_ne HO_374001.out BK356.out (by decide)) e_) hs_)); have n6_ := zA (blk_kept (by (with_reducible repeat (first | refine zM ?_ _ | refine zN ?_ | refine zO ?_ _)); exact BK373.out) hkp (fun hs_ => (fun e_ => (Kd.R_ne HO_374001.out BK373.out (by decide)) e_) hs_)); have n7_ := zA (Kd.R_mono (ok' := fun k_ => some k_ ≠ (.slice Ao24 t370.length co24 : Value).ownBlock) (Kd.R_keptB (HO386.out) hkp (fun k_ hk_ hs_ => (hk_.2) hs_)) (fun k_ hk_ => hk_.1.2)); have n8_ := zA (hb); clear HO_4; clear HO_6; clear HO_8; clear HO_10; clear HO_374001; clear BK356; clear BK373; clear HO386; clear HB; have HO_4 := n0_; have HO_6 := n1_; have HO_8 := n2_; have HO_10 := n3_; have HO_374001 := n4_; have BK356 := n5_; have BK373 := n6_; have HO386 := n7_; have HB := n8_; clear n0_ n1_ n2_ n3_ n4_ n5_ n6_ n7_ n8_; (try clear hb); (try clear hkp); (try clear hy0)))
      (try simp only [Act.put, zB, zC, zD])
      go_cut [78] (fun v78 wc => ∃ (kq : Nat) (x78_45 : Bool), v78 = .bool x78_45 ∧ Aside0 (laws_FnExactSketchSolve.j1 kq t362 t365 t366 t374 t378 x78_45 a0_0 l0_1 = some r) ∧ Aside0 (kq ≤ kj10) ∧ Aside0 (Kd.R k48 48 wc w.heap.size (fun k_ => some k_ ≠ (v375 : Value).ownBlock) v363 t362) ∧ Aside0 (Kd.R (Kd.int .i64) 3 wc w.heap.size (fun k_ => some k_ ≠ (v379 : Value).ownBlock) v367 t366) ∧ Aside0 (Kd.R k48 48 wc w.heap.size (fun k_ => some k_ ≠ (v363 : Value).ownBlock) v375 t374) ∧ Aside0 (Kd.R (Kd.int .i64) 3 wc w.heap.size (fun k_ => some k_ ≠ (v367 : Value).ownBlock) v379 t378) ∧ Aside0 (Kd.R k35 35 wc w.heap.size (fun _ => True) (.slice Ao24 t370.length co24) t389) ∧ Aside0 (wc.heap[gb356]? = some (.cells #[.int .i64 a0_0, (.slice A0_1 l0_1.length c0_1)] 39 (0, 0))) ∧ Aside0 (wc.heap[gb373]? = some (.cells #[.int .i64 t369, (.slice Ao24 t370.length co24)] 25 (0, 0))) ∧ Aside0 (Below w.heap.size w wc))
      case first =>
       have H := HC46.out
       clear HC46
       by_cases c54 : t388 < 0
       ·rw [if_pos c54] at H
        have c54b0 : decide (t388 < 0) = true := decide_eq_true c54
        clear c54
        (first | rw [c54b0] | (simp only [i64_w, i32_w]; rw [c54b0]) | skip)
        have H' := zA H
        clear H
        go_wp2
        go_meet
        case rel => exact ⟨_, (true), (by first | rfl | (simp; done) | (simp [*]; done)), H', ⟨by have := HJ10.out; first | omega | exact Nat.le_refl _⟩, ⟨by (with_reducible repeat (first | apply zF | apply zE | apply zG)); exact HO_4.out⟩, ⟨by (with_reducible repeat (first | apply zF | apply zE | apply zG)); exact HO_6.out⟩, ⟨by (with_reducible repeat (first | apply zF | apply zE | apply zG)); exact HO_8.out⟩, ⟨by (with_reducible repeat (first | apply zF | apply zE | apply zG)); exact HO_10.out⟩, ⟨by (with_reducible repeat (first | apply zF | apply zE | apply zG)); exact Kd.R_mono HO_374001.out (fun _ hk => trivial)⟩, ⟨by (with_reducible repeat (first | refine zM ?_ _ | refine zN ?_ | refine zO ?_ _)); exact BK356.out⟩, ⟨by (with_reducible repeat (first | refine zM ?_ _ | refine zN ?_ | refine zO ?_ _)); exact BK373.out⟩, ⟨by repeat (first | (with_reducible first | exact HB.out | apply zR | apply zP | apply zQ | refine zS ?_ GE356.out | refine zS ?_ GE373.out) | exact HB.out)⟩⟩
       ·rw [if_neg c54] at H
        have c54b0 : decide (t388 < 0) = false := decide_eq_false c54
        clear c54
        (first | rw [c54b0] | (simp only [i64_w, i32_w]; rw [c54b0]) | skip)
        replace H := Option.bind_eq_some_iff.mp H
        obtain ⟨t390, A550, H⟩ := H
        replace H : (if t390 = true then (if t377 = t365 then ((laws_eqIntS.f kj10 t378 t366).bind fun t391 => (laws_FnExactSketchSolve.j1 kj10 t362 t365 t366 t374 t378 (!t391) a0_0 l0_1)) else (laws_FnExactSketchSolve.j1 kj10 t362 t365 t366 t374 t378 true a0_0 l0_1)) else (laws_FnExactSketchSolve.j1 kj10 t362 t365 t366 t374 t378 true a0_0 l0_1)) = some r := H
        have A55 := zA A550
        clear A550
        by_cases c56 : t390 = true
        ·subst c56
         have H1 : (if t377 = t365 then ((laws_eqIntS.f kj10 t378 t366).bind fun t391 => (laws_FnExactSketchSolve.j1 kj10 t362 t365 t366 t374 t378 (!t391) a0_0 l0_1)) else (laws_FnExactSketchSolve.j1 kj10 t362 t365 t366 t374 t378 true a0_0 l0_1)) = some r := by rw [if_pos rfl] at H; exact H
         clear H
         have H := H1
         clear H1
         by_cases c57 : t377 = t365
         ·rw [if_pos c57] at H
          have c57b0 : (t377 == t365) = true := beq_iff_eq.mpr c57
          have c57b1 : (t377 != t365) = false := bne_eq_false_iff_eq.mpr c57
          clear c57
          replace H := Option.bind_eq_some_iff.mp H
          obtain ⟨t391, A580, H⟩ := H
          replace H : (laws_FnExactSketchSolve.j1 kj10 t362 t365 t366 t374 t378 (!t391) a0_0 l0_1) = some r := H
          have A58 := zA A580
          clear A580
          have H' := zA H
          clear H
          obtain ⟨Ao59, co59, eo59⟩ := Kd.R_slice HO_8.out
          subst eo59
          obtain ⟨Ao60, co60, eo60⟩ := Kd.R_slice HO_4.out
          subst eo60
          go_wp2_with (first | (go_at_call 23; (with_reducible refine (laws_eqPointS.calls kj10 _ _ t374 _ _ t362 true _ ?side1 ?side2 ?side3 ?side4 A55.out).mono ?_); (case side1 => repeat (first | exact (zK HO_8.out).2.2 | (with_reducible refine zI ?_ _) | (with_reducible refine zH ?_ _) | (with_reducible refine zJ ?_))); (case side2 => exact (zK HO_8.out).2.1); (case side3 => repeat (first | exact (zK HO_4.out).2.2 | (with_reducible refine zI ?_ _) | (with_reducible refine zH ?_ _) | (with_reducible refine zJ ?_))); (case side4 => exact (zK HO_4.out).2.1); rintro e w61 ⟨rfl, hb⟩; have n0_ := zA (zL (by (with_reducible repeat (first | apply zF | apply zE | apply zG)); exact HO_4.out) hb); have n1_ := zA (zL (by (with_reducible repeat (first | apply zF | apply zE | apply zG)); exact HO_6.out) hb); have n2_ := zA (zL (by (with_reducible repeat (first | apply zF | apply zE | apply zG)); exact HO_8.out) hb); have n3_ := zA (zL (by (with_reducible repeat (first | apply zF | apply zE | apply zG)); exact HO_10.out) hb); have n4_ := zA (zL (by (with_reducible repeat (first | apply zF | apply zE | apply zG)); exact HO_374001.out) hb); have n5_ := zA (zL (by (with_reducible repeat (first | apply zF | apply zE | apply zG)); exact HO386.out) hb); have n6_ := zA (zU (g := gb356) (o := .cells #[.int .i64 a0_0, .slice A0_1 l0_1.length c0_1] 39 (0, 0)) (by (with_reducible repeat (first | refine zM ?_ _ | refine zN ?_ | refine zO ?_ _)); exact BK356.out) hb); have n7_ := zA (zU (g := gb373) (o := .cells #[.int .i64 t369, .slice Ao24 t370.length co24] 25 (0, 0)) (by (with_reducible repeat (first | refine zM ?_ _ | refine zN ?_ | refine zO ?_ _)); exact BK373.out) hb); have n8_ := zA (below_step (by repeat (first | (with_reducible first | exact HB.out | apply zR | apply zP | apply zQ | refine zS ?_ GE356.out | refine zS ?_ GE373.out) | exact HB.out)) hb); clear HO_4; clear HO_6; clear HO_8; clear HO_10; clear HO_374001; clear HO386; clear BK356; clear BK373; clear HB; have HO_4 := n0_; have HO_6 := n1_; have HO_8 := n2_; have HO_10 := n3_; have HO_374001 := n4_; have HO386 := n5_; have BK356 := n6_; have BK373 := n7_; have HB := n8_; clear n0_ n1_ n2_ n3_ n4_ n5_ n6_ n7_ n8_; (try clear hb); (try clear hb2); (try clear hk); (try clear hi); obtain ⟨Ao62, co62, eo62⟩ := Kd.R_slice HO_10.out; subst eo62; obtain ⟨Ao63, co63, eo63⟩ := Kd.R_slice HO_6.out; subst eo63) | (go_at_call 24; (with_reducible refine (laws_eqIntS.calls kj10 _ _ t378 _ _ t366 t391 _ ?side1 ?side2 ?side3 ?side4 A58.out).mono ?_); (case side1 => repeat (first | exact (zK HO_10.out).2.2 | (with_reducible refine zI ?_ _) | (with_reducible refine zH ?_ _) | (with_reducible refine zJ ?_))); (case side2 => exact (zK HO_10.out).2.1); (case side3 => repeat (first | exact (zK HO_6.out).2.2 | (with_reducible refine zI ?_ _) | (with_reducible refine zH ?_ _) | (with_reducible refine zJ ?_))); (case side4 => exact (zK HO_6.out).2.1); rintro e w' ⟨rfl, ⟨nd, rfl⟩⟩))
          go_meet
          case rel => exact ⟨_, (!t391), (by first | rfl | (simp; done) | (simp [*]; done)), H', ⟨by have := HJ10.out; first | omega | exact Nat.le_refl _⟩, ⟨by (with_reducible repeat (first | apply zF | apply zE | apply zG)); exact HO_4.out⟩, ⟨by (with_reducible repeat (first | apply zF | apply zE | apply zG)); exact HO_6.out⟩, ⟨by (with_reducible repeat (first | apply zF | apply zE | apply zG)); exact HO_8.out⟩, ⟨by (with_reducible repeat (first | apply zF | apply zE | apply zG)); exact HO_10.out⟩, ⟨by (with_reducible repeat (first | apply zF | apply zE | apply zG)); exact Kd.R_mono HO_374001.out (fun _ hk => trivial)⟩, ⟨by (with_reducible repeat (first | refine zM ?_ _ | refine zN ?_ | refine zO ?_ _)); exact BK356.out⟩, ⟨by (with_reducible repeat (first | refine zM ?_ _ | refine zN ?_ | refine zO ?_ _)); exact BK373.out⟩, ⟨by repeat (first | (with_reducible first | exact HB.out | apply zR | apply zP | apply zQ | refine zS ?_ GE356.out | refine zS ?_ GE373.out) | exact HB.out)⟩⟩
         ·rw [if_neg c57] at H
          have c57b0 : (t377 == t365) = false := beq_eq_false_iff_ne.mpr c57
          have c57b1 : (t377 != t365) = true := bne_iff_ne.mpr c57
          have H' := zA H
          clear H
          obtain ⟨Ao64, co64, eo64⟩ := Kd.R_slice HO_8.out
          subst eo64
          obtain ⟨Ao65, co65, eo65⟩ := Kd.R_slice HO_4.out
          subst eo65
          go_wp2_with (first | (go_at_call 23; (with_reducible refine (laws_eqPointS.calls kj10 _ _ t374 _ _ t362 true _ ?side1 ?side2 ?side3 ?side4 A55.out).mono ?_); (case side1 => repeat (first | exact (zK HO_8.out).2.2 | (with_reducible refine zI ?_ _) | (with_reducible refine zH ?_ _) | (with_reducible refine zJ ?_))); (case side2 => exact (zK HO_8.out).2.1); (case side3 => repeat (first | exact (zK HO_4.out).2.2 | (with_reducible refine zI ?_ _) | (with_reducible refine zH ?_ _) | (with_reducible refine zJ ?_))); (case side4 => exact (zK HO_4.out).2.1); rintro e w66 ⟨rfl, hb⟩; have n0_ := zA (zL (by (with_reducible repeat (first | apply zF | apply zE | apply zG)); exact HO_4.out) hb); have n1_ := zA (zL (by (with_reducible repeat (first | apply zF | apply zE | apply zG)); exact HO_6.out) hb); have n2_ := zA (zL (by (with_reducible repeat (first | apply zF | apply zE | apply zG)); exact HO_8.out) hb); have n3_ := zA (zL (by (with_reducible repeat (first | apply zF | apply zE | apply zG)); exact HO_10.out) hb); have n4_ := zA (zL (by (with_reducible repeat (first | apply zF | apply zE | apply zG)); exact HO_374001.out) hb); have n5_ := zA (zL (by (with_reducible repeat (first | apply zF | apply zE | apply zG)); exact HO386.out) hb); have n6_ := zA (zU (g := gb356) (o := .cells #[.int .i64 a0_0, .slice A0_1 l0_1.length c0_1] 39 (0, 0)) (by (with_reducible repeat (first | refine zM ?_ _ | refine zN ?_ | refine zO ?_ _)); exact BK356.out) hb); have n7_ := zA (zU (g := gb373) (o := .cells #[.int .i64 t369, .slice Ao24 t370.length co24] 25 (0, 0)) (by (with_reducible repeat (first | refine zM ?_ _ | refine zN ?_ | refine zO ?_ _)); exact BK373.out) hb); have n8_ := zA (below_step (by repeat (first | (with_reducible first | exact HB.out | apply zR | apply zP | apply zQ | refine zS ?_ GE356.out | refine zS ?_ GE373.out) | exact HB.out)) hb); clear HO_4; clear HO_6; clear HO_8; clear HO_10; clear HO_374001; clear HO386; clear BK356; clear BK373; clear HB; have HO_4 := n0_; have HO_6 := n1_; have HO_8 := n2_; have HO_10 := n3_; have HO_374001 := n4_; have HO386 := n5_; have BK356 := n6_; have BK373 := n7_; have HB := n8_; clear n0_ n1_ n2_ n3_ n4_ n5_ n6_ n7_ n8_; (try clear hb); (try clear hb2); (try clear hk); (try clear hi)))
          go_meet
          case rel => exact ⟨_, (true), (by first | rfl | (simp; done) | (simp [*]; done)), H', ⟨by have := HJ10.out; first | omega | exact Nat.le_refl _⟩, ⟨by (with_reducible repeat (first | apply zF | apply zE | apply zG)); exact HO_4.out⟩, ⟨by (with_reducible repeat (first | apply zF | apply zE | apply zG)); exact HO_6.out⟩, ⟨by (with_reducible repeat (first | apply zF | apply zE | apply zG)); exact HO_8.out⟩, ⟨by (with_reducible repeat (first | apply zF | apply zE | apply zG)); exact HO_10.out⟩, ⟨by (with_reducible repeat (first | apply zF | apply zE | apply zG)); exact Kd.R_mono HO_374001.out (fun _ hk => trivial)⟩, ⟨by (with_reducible repeat (first | refine zM ?_ _ | refine zN ?_ | refine zO ?_ _)); exact BK356.out⟩, ⟨by (with_reducible repeat (first | refine zM ?_ _ | refine zN ?_ | refine zO ?_ _)); exact BK373.out⟩, ⟨by repeat (first | (with_reducible first | exact HB.out | apply zR | apply zP | apply zQ | refine zS ?_ GE356.out | refine zS ?_ GE373.out) | exact HB.out)⟩⟩
        ·replace c56 := Bool.eq_false_iff.mpr c56
         subst c56
         have H1 : (laws_FnExactSketchSolve.j1 kj10 t362 t365 t366 t374 t378 true a0_0 l0_1) = some r := by rw [if_neg (show ¬ (false = true) by decide)] at H; exact H
         clear H
         have H := H1
         clear H1
         have H' := zA H
         clear H
         obtain ⟨Ao67, co67, eo67⟩ := Kd.R_slice HO_8.out
         subst eo67
         obtain ⟨Ao68, co68, eo68⟩ := Kd.R_slice HO_4.out
         subst eo68
         go_wp2_with (first | (go_at_call 23; (with_reducible refine (laws_eqPointS.calls kj10 _ _ t374 _ _ t362 false _ ?side1 ?side2 ?side3 ?side4 A55.out).mono ?_); (case side1 => repeat (first | exact (zK HO_8.out).2.2 | (with_reducible refine zI ?_ _) | (with_reducible refine zH ?_ _) | (with_reducible refine zJ ?_))); (case side2 => exact (zK HO_8.out).2.1); (case side3 => repeat (first | exact (zK HO_4.out).2.2 | (with_reducible refine zI ?_ _) | (with_reducible refine zH ?_ _) | (with_reducible refine zJ ?_))); (case side4 => exact (zK HO_4.out).2.1); rintro e w69 ⟨rfl, hb⟩; have n0_ := zA (zL (by (with_reducible repeat (first | apply zF | apply zE | apply zG)); exact HO_4.out) hb); have n1_ := zA (zL (by (with_reducible repeat (first | apply zF | apply zE | apply zG)); exact HO_6.out) hb); have n2_ := zA (zL (by (with_reducible repeat (first | apply zF | apply zE | apply zG)); exact HO_8.out) hb); have n3_ := zA (zL (by (with_reducible repeat (first | apply zF | apply zE | apply zG)); exact HO_10.out) hb); have n4_ := zA (zL (by (with_reducible repeat (first | apply zF | apply zE | apply zG)); exact HO_374001.out) hb); have n5_ := zA (zL (by (with_reducible repeat (first | apply zF | apply zE | apply zG)); exact HO386.out) hb); have n6_ := zA (zU (g := gb356) (o := .cells #[.int .i64 a0_0, .slice A0_1 l0_1.length c0_1] 39 (0, 0)) (by (with_reducible repeat (first | refine zM ?_ _ | refine zN ?_ | refine zO ?_ _)); exact BK356.out) hb); have n7_ := zA (zU (g := gb373) (o := .cells #[.int .i64 t369, .slice Ao24 t370.length co24] 25 (0, 0)) (by (with_reducible repeat (first | refine zM ?_ _ | refine zN ?_ | refine zO ?_ _)); exact BK373.out) hb); have n8_ := zA (below_step (by repeat (first | (with_reducible first | exact HB.out | apply zR | apply zP | apply zQ | refine zS ?_ GE356.out | refine zS ?_ GE373.out) | exact HB.out)) hb); clear HO_4; clear HO_6; clear HO_8; clear HO_10; clear HO_374001; clear HO386; clear BK356; clear BK373; clear HB; have HO_4 := n0_; have HO_6 := n1_; have HO_8 := n2_; have HO_10 := n3_; have HO_374001 := n4_; have HO386 := n5_; have BK356 := n6_; have BK373 := n7_; have HB := n8_; clear n0_ n1_ n2_ n3_ n4_ n5_ n6_ n7_ n8_; (try clear hb); (try clear hb2); (try clear hk); (try clear hi)))
         go_meet
         case rel => exact ⟨_, (true), (by first | rfl | (simp; done) | (simp [*]; done)), H', ⟨by have := HJ10.out; first | omega | exact Nat.le_refl _⟩, ⟨by (with_reducible repeat (first | apply zF | apply zE | apply zG)); exact HO_4.out⟩, ⟨by (with_reducible repeat (first | apply zF | apply zE | apply zG)); exact HO_6.out⟩, ⟨by (with_reducible repeat (first | apply zF | apply zE | apply zG)); exact HO_8.out⟩, ⟨by (with_reducible repeat (first | apply zF | apply zE | apply zG)); exact HO_10.out⟩, ⟨by (with_reducible repeat (first | apply zF | apply zE | apply zG)); exact Kd.R_mono HO_374001.out (fun _ hk => trivial)⟩, ⟨by (with_reducible repeat (first | refine zM ?_ _ | refine zN ?_ | refine zO ?_ _)); exact BK356.out⟩, ⟨by (with_reducible repeat (first | refine zM ?_ _ | refine zN ?_ | refine zO ?_ _)); exact BK373.out⟩, ⟨by repeat (first | (with_reducible first | exact HB.out | apply zR | apply zP | apply zQ | refine zS ?_ GE356.out | refine zS ?_ GE373.out) | exact HB.out)⟩⟩
      case rest =>
       clear HC46
       try clear c1
       try clear c2
       try clear p2
       try clear c3
       try clear c3b0
       try clear c4
       try clear c5
       try clear c6
       try clear c9
       try clear c10
       try clear c15
       try clear c17
       try clear c19
       try clear c22
       try clear c23
       try clear c25
       try clear c27
       try clear c28
       try clear c28b0
       try clear c28b1
       try clear c41
       try clear c44
       try clear c51
       try clear c54
       try clear c54b0
       try clear c56
       try clear c57
       try clear c57b0
       try clear c57b1
       try clear hcz13_0
       try clear hcz13_1
       try clear hcz15_0
       try clear hcz15_1
       try clear hcz19_0
       try clear hcz19_1
       try clear hcz23_0
       try clear hcz23_1
       try clear hcz52_0
       try clear hcz52_1
       try clear hcz5_0
       try clear hcz5_1
       try clear hfz13_0
       try clear hfz13_1
       try clear hfz15_0
       try clear hfz15_1
       try clear hfz19_0
       try clear hfz19_1
       try clear hfz23_0
       try clear hfz23_1
       try clear hfz52_0
       try clear hfz52_1
       try clear hfz5_0
       try clear hfz5_1
       try clear p2
       obtain ⟨kq, x78_45, rfl, HA, HJ45, HO_4, HO_6, HO_8, HO_10, HO_374001, BK356, BK373, HB⟩ := hcut
       have hl374001_45 := (zK HO_374001.out).1
       rw [hl374001_45] at HO_374001
       (try simp only [hl374001_45])
       (try simp only [hl374001_45] at BK356)
       (try simp only [hl374001_45] at BK373)
       (try simp only [hl374001_45] at HO_4)
       (try simp only [hl374001_45] at HO_6)
       (try simp only [hl374001_45] at HO_8)
       (try simp only [hl374001_45] at HO_10)
       cases kq with
       | zero => exact absurd HA.out (by simp [laws_FnExactSketchSolve.j1])
       | succ kj45 =>
        have H := HA.out
        clear HA
        simp only [laws_FnExactSketchSolve.j1] at H
        by_cases c70 : x78_45 = true
        ·subst c70
         have H1 : (some false) = some r := by rw [if_pos rfl] at H; exact H
         clear H
         have H := H1
         clear H1
         obtain rfl := Option.some.inj H
         go_wp2
         go_ret
         exact ⟨by first | rfl | (simp [errW_none, errW_some] <;> rfl) | (simp [*, errW_none, errW_some] <;> rfl), by repeat (first | (with_reducible first | exact HB.out | apply zR | apply zP | apply zQ | refine zS ?_ GE356.out | refine zS ?_ GE373.out) | exact HB.out)⟩
        ·replace c70 := Bool.eq_false_iff.mpr c70
         subst c70
         have H1 : ((laws_markPointS.f kj45 t374 1).bind fun bt392 => ((laws_markIntS.f kj45 t378 bt392.1).bind fun bt394 => ((laws_heldPointS.f kj45 bt392.2 1).bind fun t396 => (if t396 < 0 then (some false) else ((laws_heldIntS.f kj45 bt394.2 t396).bind fun t397 => (if t397 < 0 then (some false) else (if t397 = bt394.1 then ((laws_toSketch.f kj45 a0_0 l0_1).bind fun bt398 => ((impl_SketchSolve.f kj45 bt398.1 bt398.2).bind fun bt402 => ((laws_eqPointS.f kj45 bt402.1 t362).bind fun t409 => (if t409 = true then (if bt402.2.1 = t365 then ((laws_eqIntS.f kj45 bt402.2.2 t366).bind fun t410 => (laws_FnExactSketchSolve.j2 kj45 bt392.2 bt394.2 bt394.1 (!t410))) else (laws_FnExactSketchSolve.j2 kj45 bt392.2 bt394.2 bt394.1 true)) else (laws_FnExactSketchSolve.j2 kj45 bt392.2 bt394.2 bt394.1 true))))) else (some false)))))))) = some r := by rw [if_neg (show ¬ (false = true) by decide)] at H; exact H
         clear H
         have H := H1
         clear H1
         replace H := Option.bind_eq_some_iff.mp H
         obtain ⟨⟨t392, t393⟩, A710, H⟩ := H
         replace H : ((laws_markIntS.f kj45 t378 t392).bind fun bt394 => ((laws_heldPointS.f kj45 t393 1).bind fun t396 => (if t396 < 0 then (some false) else ((laws_heldIntS.f kj45 bt394.2 t396).bind fun t397 => (if t397 < 0 then (some false) else (if t397 = bt394.1 then ((laws_toSketch.f kj45 a0_0 l0_1).bind fun bt398 => ((impl_SketchSolve.f kj45 bt398.1 bt398.2).bind fun bt402 => ((laws_eqPointS.f kj45 bt402.1 t362).bind fun t409 => (if t409 = true then (if bt402.2.1 = t365 then ((laws_eqIntS.f kj45 bt402.2.2 t366).bind fun t410 => (laws_FnExactSketchSolve.j2 kj45 t393 bt394.2 bt394.1 (!t410))) else (laws_FnExactSketchSolve.j2 kj45 t393 bt394.2 bt394.1 true)) else (laws_FnExactSketchSolve.j2 kj45 t393 bt394.2 bt394.1 true))))) else (some false))))))) = some r := H
         have A71 := zA A710
         clear A710
         replace H := Option.bind_eq_some_iff.mp H
         obtain ⟨⟨t394, t395⟩, A720, H⟩ := H
         replace H : ((laws_heldPointS.f kj45 t393 1).bind fun t396 => (if t396 < 0 then (some false) else ((laws_heldIntS.f kj45 t395 t396).bind fun t397 => (if t397 < 0 then (some false) else (if t397 = t394 then ((laws_toSketch.f kj45 a0_0 l0_1).bind fun bt398 => ((impl_SketchSolve.f kj45 bt398.1 bt398.2).bind fun bt402 => ((laws_eqPointS.f kj45 bt402.1 t362).bind fun t409 => (if t409 = true then (if bt402.2.1 = t365 then ((laws_eqIntS.f kj45 bt402.2.2 t366).bind fun t410 => (laws_FnExactSketchSolve.j2 kj45 t393 t395 t394 (!t410))) else (laws_FnExactSketchSolve.j2 kj45 t393 t395 t394 true)) else (laws_FnExactSketchSolve.j2 kj45 t393 t395 t394 true))))) else (some false)))))) = some r := H
         have A72 := zA A720
         clear A720
         replace H := Option.bind_eq_some_iff.mp H
         obtain ⟨t396, A730, H⟩ := H
         replace H : (if t396 < 0 then (some false) else ((laws_heldIntS.f kj45 t395 t396).bind fun t397 => (if t397 < 0 then (some false) else (if t397 = t394 then ((laws_toSketch.f kj45 a0_0 l0_1).bind fun bt398 => ((impl_SketchSolve.f kj45 bt398.1 bt398.2).bind fun bt402 => ((laws_eqPointS.f kj45 bt402.1 t362).bind fun t409 => (if t409 = true then (if bt402.2.1 = t365 then ((laws_eqIntS.f kj45 bt402.2.2 t366).bind fun t410 => (laws_FnExactSketchSolve.j2 kj45 t393 t395 t394 (!t410))) else (laws_FnExactSketchSolve.j2 kj45 t393 t395 t394 true)) else (laws_FnExactSketchSolve.j2 kj45 t393 t395 t394 true))))) else (some false))))) = some r := H
         have A73 := zA A730
         clear A730
         by_cases c74 : t396 < 0
         ·rw [if_pos c74] at H
          have c74b0 : decide (t396 < 0) = true := decide_eq_true c74
          clear c74
          obtain rfl := Option.some.inj H
          obtain ⟨Ao75, co75, eo75⟩ := Kd.R_slice HO_8.out
          subst eo75
          go_wp2_with (first | ((with_reducible refine gate_callee (f := 26) rfl ?_); refine goesL_ (some 81) rfl rfl Try.func26 (by kernel_rfl) rfl #[.slice Ao75 t374.length co75, .int .i64 1] rfl (by (try simp only [List.map_toArray, List.map_cons, List.map_nil]); first | done | rfl | (simp only [List.length_drop, List.length_take]; rfl)) ?_; (with_reducible refine (laws_markPointS.calls kj45 (fun k_ => some k_ = (.slice Ao75 t374.length co75 : Value).ownBlock) (.slice Ao75 t374.length co75) t374 1 t392 t393 w _ ?side1 ?side2 A71.out).mono ?_); (case side1 => repeat (first | (with_reducible first | exact HB.out | apply zR | apply zP | apply zQ | refine zS ?_ GE356.out | refine zS ?_ GE373.out) | exact HB.out)); (case side2 => exact Kd.R_tight rfl HO_8.out); rintro e w76 ⟨rfl, hy0, hb, hkp⟩; refine ⟨_, rfl, ?_⟩; have n0_ := zA (Kd.R_mono (ok' := fun k_ => some k_ ≠ (.slice Ao75 t374.length co75 : Value).ownBlock) (Kd.R_keptB (HO_4.out) hkp (fun k_ hk_ hs_ => (hk_) hs_)) (fun k_ hk_ => hk_.1)); have n1_ := zA (Kd.R_mono (ok' := fun k_ => some k_ ≠ (v379 : Value).ownBlock) (Kd.R_keptB ((Kd.R_apart' HO_6.out (Kd.R_typed HO_8.out) (by decide))) hkp (fun k_ hk_ hs_ => (hk_.2) hs_)) (fun k_ hk_ => hk_.1.1)); have n2_ := zA (Kd.R_reok rfl hy0 (fun k_ e_ => HO_8.out.1 k_ e_)); have n3_ := zA (Kd.R_mono (ok' := fun k_ => some k_ ≠ (v367 : Value).ownBlock) (Kd.R_keptB ((Kd.R_apart' HO_10.out (Kd.R_typed HO_8.out) (by decide))) hkp (fun k_ hk_ hs_ => (hk_.2) hs_)) (fun k_ hk_ => hk_.1.1)); have n4_ := zA (Kd.R_mono (ok' := fun k_ => True) (Kd.R_keptB ((Kd.R_apart' HO_374001.out (Kd.R_typed HO_8.out) (by decide))) hkp (fun k_ hk_ hs_ => (hk_.2) hs_)) (fun k_ hk_ => trivial)); have n5_ := zA (blk_kept (by (with_reducible repeat (first | refine zM ?_ _ | refine zN ?_ | refine zO ?_ _)); exact BK356.out) hkp (fun hs_ => (fun e_ => (Kd.R_ne HO_8.out BK356.out (by decide)) e_) hs_)); have n6_ := zA (blk_kept (by (with_reducible repeat (first | refine zM ?_ _ | refine zN ?_ | refine zO ?_ _)); exact BK373.out) hkp (fun hs_ => (fun e_ => (Kd.R_ne HO_8.out BK373.out (by decide)) e_) hs_)); have n7_ := zA (hb); clear HO_4; clear HO_6; clear HO_8; clear HO_10; clear HO_374001; clear BK356; clear BK373; clear HB; have HO_4 := n0_; have HO_6 := n1_; have HO_8 := n2_; have HO_10 := n3_; have HO_374001 := n4_; have BK356 := n5_; have BK373 := n6_; have HB := n7_; clear n0_ n1_ n2_ n3_ n4_ n5_ n6_ n7_; (try clear hb); (try clear hkp); (try clear hy0); obtain ⟨Ao77, co77, eo77⟩ := Kd.R_slice HO_10.out; subst eo77) | ((with_reducible refine gate_callee (f := 27) rfl ?_); refine goesL_ (some 84) rfl rfl Try.func27 (by kernel_rfl) rfl #[.slice Ao77 t378.length co77, .int .i64 t392] rfl (by (try simp only [List.map_toArray, List.map_cons, List.map_nil]); first | done | rfl | (simp only [List.length_drop, List.length_take]; rfl)) ?_; (with_reducible refine (laws_markIntS.calls kj45 (fun k_ => some k_ = (.slice Ao77 t378.length co77 : Value).ownBlock) (.slice Ao77 t378.length co77) t378 t392 t394 t395 w _ ?side1 ?side2 A72.out).mono ?_); (case side1 => repeat (first | (with_reducible first | exact HB.out | apply zR | apply zP | apply zQ | refine zS ?_ GE356.out | refine zS ?_ GE373.out) | exact HB.out)); (case side2 => exact Kd.R_tight rfl HO_10.out); rintro e w78 ⟨rfl, hy0, hb, hkp⟩; refine ⟨_, rfl, ?_⟩; have n0_ := zA (Kd.R_mono (ok' := fun k_ => some k_ ≠ (.slice Ao75 t374.length co75 : Value).ownBlock) (Kd.R_keptB ((Kd.R_apart' HO_4.out (Kd.R_typed HO_10.out) (by decide))) hkp (fun k_ hk_ hs_ => (hk_.2) hs_)) (fun k_ hk_ => hk_.1.1)); have n1_ := zA (Kd.R_mono (ok' := fun k_ => some k_ ≠ (.slice Ao77 t378.length co77 : Value).ownBlock) (Kd.R_keptB (HO_6.out) hkp (fun k_ hk_ hs_ => (hk_) hs_)) (fun k_ hk_ => hk_.1)); have n2_ := zA (Kd.R_mono (ok' := fun k_ => some k_ ≠ (v363 : Value).ownBlock) (Kd.R_keptB ((Kd.R_apart' HO_8.out (Kd.R_typed HO_10.out) (by decide))) hkp (fun k_ hk_ hs_ => (hk_.2) hs_)) (fun k_ hk_ => hk_.1.1)); have n3_ := zA (Kd.R_reok rfl hy0 (fun k_ e_ => HO_10.out.1 k_ e_)); have n4_ := zA (Kd.R_mono (ok' := fun k_ => True) (Kd.R_keptB ((Kd.R_apart' HO_374001.out (Kd.R_typed HO_10.out) (by decide))) hkp (fun k_ hk_ hs_ => (hk_.2) hs_)) (fun k_ hk_ => trivial)); have n5_ := zA (blk_kept (by (with_reducible repeat (first | refine zM ?_ _ | refine zN ?_ | refine zO ?_ _)); exact BK356.out) hkp (fun hs_ => (fun e_ => (Kd.R_ne HO_10.out BK356.out (by decide)) e_) hs_)); have n6_ := zA (blk_kept (by (with_reducible repeat (first | refine zM ?_ _ | refine zN ?_ | refine zO ?_ _)); exact BK373.out) hkp (fun hs_ => (fun e_ => (Kd.R_ne HO_10.out BK373.out (by decide)) e_) hs_)); have n7_ := zA (hb); clear HO_4; clear HO_6; clear HO_8; clear HO_10; clear HO_374001; clear BK356; clear BK373; clear HB; have HO_4 := n0_; have HO_6 := n1_; have HO_8 := n2_; have HO_10 := n3_; have HO_374001 := n4_; have BK356 := n5_; have BK373 := n6_; have HB := n7_; clear n0_ n1_ n2_ n3_ n4_ n5_ n6_ n7_; (try clear hb); (try clear hkp); (try clear hy0)) | ((with_reducible refine gate_callee (f := 28) rfl ?_); refine goesL_ (some 87) rfl rfl Try.func28 (by kernel_rfl) rfl #[.slice Ao75 t393.length co75, .int .i64 1] rfl (by (try simp only [List.map_toArray, List.map_cons, List.map_nil]); first | done | (rw [show t393.length = t374.length from (zK HO_8.out).1.symm] <;> rfl) | rfl | (simp only [List.length_drop, List.length_take]; rfl)) ?_; (with_reducible refine (laws_heldPointS.calls kj45 _ _ t393 1 t396 _ ?side1 ?side2 A73.out).mono ?_); (case side1 => repeat (first | exact (zK HO_8.out).2.2 | (with_reducible refine zI ?_ _) | (with_reducible refine zH ?_ _) | (with_reducible refine zJ ?_))); (case side2 => rw [show t393.length = t374.length from (zK HO_8.out).1.symm]; exact (zK HO_8.out).2.1); rintro e w' ⟨rfl, ⟨nd, rfl⟩⟩; refine ⟨_, rfl, ?_⟩))
          go_ret
          exact ⟨by first | rfl | (simp [errW_none, errW_some] <;> rfl) | (simp [*, errW_none, errW_some] <;> rfl), by repeat (first | (with_reducible first | exact HB.out | apply zR | apply zP | apply zQ | refine zS ?_ GE356.out | refine zS ?_ GE373.out) | exact HB.out)⟩
         ·rw [if_neg c74] at H
          have c74b0 : decide (t396 < 0) = false := decide_eq_false c74
          clear c74
          replace H := Option.bind_eq_some_iff.mp H
          obtain ⟨t397, A790, H⟩ := H
          replace H : (if t397 < 0 then (some false) else (if t397 = t394 then ((laws_toSketch.f kj45 a0_0 l0_1).bind fun bt398 => ((impl_SketchSolve.f kj45 bt398.1 bt398.2).bind fun bt402 => ((laws_eqPointS.f kj45 bt402.1 t362).bind fun t409 => (if t409 = true then (if bt402.2.1 = t365 then ((laws_eqIntS.f kj45 bt402.2.2 t366).bind fun t410 => (laws_FnExactSketchSolve.j2 kj45 t393 t395 t394 (!t410))) else (laws_FnExactSketchSolve.j2 kj45 t393 t395 t394 true)) else (laws_FnExactSketchSolve.j2 kj45 t393 t395 t394 true))))) else (some false))) = some r := H
          have A79 := zA A790
          clear A790
          by_cases c80 : t397 < 0
          ·rw [if_pos c80] at H
           have c80b0 : decide (t397 < 0) = true := decide_eq_true c80
           clear c80
           obtain rfl := Option.some.inj H
           obtain ⟨Ao81, co81, eo81⟩ := Kd.R_slice HO_8.out
           subst eo81
           go_wp2_with (first | ((with_reducible refine gate_callee (f := 26) rfl ?_); refine goesL_ (some 81) rfl rfl Try.func26 (by kernel_rfl) rfl #[.slice Ao81 t374.length co81, .int .i64 1] rfl (by (try simp only [List.map_toArray, List.map_cons, List.map_nil]); first | done | rfl | (simp only [List.length_drop, List.length_take]; rfl)) ?_; (with_reducible refine (laws_markPointS.calls kj45 (fun k_ => some k_ = (.slice Ao81 t374.length co81 : Value).ownBlock) (.slice Ao81 t374.length co81) t374 1 t392 t393 w _ ?side1 ?side2 A71.out).mono ?_); (case side1 => repeat (first | (with_reducible first | exact HB.out | apply zR | apply zP | apply zQ | refine zS ?_ GE356.out | refine zS ?_ GE373.out) | exact HB.out)); (case side2 => exact Kd.R_tight rfl HO_8.out); rintro e w82 ⟨rfl, hy0, hb, hkp⟩; refine ⟨_, rfl, ?_⟩; have n0_ := zA (Kd.R_mono (ok' := fun k_ => some k_ ≠ (.slice Ao81 t374.length co81 : Value).ownBlock) (Kd.R_keptB (HO_4.out) hkp (fun k_ hk_ hs_ => (hk_) hs_)) (fun k_ hk_ => hk_.1)); have n1_ := zA (Kd.R_mono (ok' := fun k_ => some k_ ≠ (v379 : Value).ownBlock) (Kd.R_keptB ((Kd.R_apart' HO_6.out (Kd.R_typed HO_8.out) (by decide))) hkp (fun k_ hk_ hs_ => (hk_.2) hs_)) (fun k_ hk_ => hk_.1.1)); have n2_ := zA (Kd.R_reok rfl hy0 (fun k_ e_ => HO_8.out.1 k_ e_)); have n3_ := zA (Kd.R_mono (ok' := fun k_ => some k_ ≠ (v367 : Value).ownBlock) (Kd.R_keptB ((Kd.R_apart' HO_10.out (Kd.R_typed HO_8.out) (by decide))) hkp (fun k_ hk_ hs_ => (hk_.2) hs_)) (fun k_ hk_ => hk_.1.1)); have n4_ := zA (Kd.R_mono (ok' := fun k_ => True) (Kd.R_keptB ((Kd.R_apart' HO_374001.out (Kd.R_typed HO_8.out) (by decide))) hkp (fun k_ hk_ hs_ => (hk_.2) hs_)) (fun k_ hk_ => trivial)); have n5_ := zA (blk_kept (by (with_reducible repeat (first | refine zM ?_ _ | refine zN ?_ | refine zO ?_ _)); exact BK356.out) hkp (fun hs_ => (fun e_ => (Kd.R_ne HO_8.out BK356.out (by decide)) e_) hs_)); have n6_ := zA (blk_kept (by (with_reducible repeat (first | refine zM ?_ _ | refine zN ?_ | refine zO ?_ _)); exact BK373.out) hkp (fun hs_ => (fun e_ => (Kd.R_ne HO_8.out BK373.out (by decide)) e_) hs_)); have n7_ := zA (hb); clear HO_4; clear HO_6; clear HO_8; clear HO_10; clear HO_374001; clear BK356; clear BK373; clear HB; have HO_4 := n0_; have HO_6 := n1_; have HO_8 := n2_; have HO_10 := n3_; have HO_374001 := n4_; have BK356 := n5_; have BK373 := n6_; have HB := n7_; clear n0_ n1_ n2_ n3_ n4_ n5_ n6_ n7_; (try clear hb); (try clear hkp); (try clear hy0); obtain ⟨Ao83, co83, eo83⟩ := Kd.R_slice HO_10.out; subst eo83) | ((with_reducible refine gate_callee (f := 27) rfl ?_); refine goesL_ (some 84) rfl rfl Try.func27 (by kernel_rfl) rfl #[.slice Ao83 t378.length co83, .int .i64 t392] rfl (by (try simp only [List.map_toArray, List.map_cons, List.map_nil]); first | done | rfl | (simp only [List.length_drop, List.length_take]; rfl)) ?_; (with_reducible refine (laws_markIntS.calls kj45 (fun k_ => some k_ = (.slice Ao83 t378.length co83 : Value).ownBlock) (.slice Ao83 t378.length co83) t378 t392 t394 t395 w _ ?side1 ?side2 A72.out).mono ?_); (case side1 => repeat (first | (with_reducible first | exact HB.out | apply zR | apply zP | apply zQ | refine zS ?_ GE356.out | refine zS ?_ GE373.out) | exact HB.out)); (case side2 => exact Kd.R_tight rfl HO_10.out); rintro e w84 ⟨rfl, hy0, hb, hkp⟩; refine ⟨_, rfl, ?_⟩; have n0_ := zA (Kd.R_mono (ok' := fun k_ => some k_ ≠ (.slice Ao81 t374.length co81 : Value).ownBlock) (Kd.R_keptB ((Kd.R_apart' HO_4.out (Kd.R_typed HO_10.out) (by decide))) hkp (fun k_ hk_ hs_ => (hk_.2) hs_)) (fun k_ hk_ => hk_.1.1)); have n1_ := zA (Kd.R_mono (ok' := fun k_ => some k_ ≠ (.slice Ao83 t378.length co83 : Value).ownBlock) (Kd.R_keptB (HO_6.out) hkp (fun k_ hk_ hs_ => (hk_) hs_)) (fun k_ hk_ => hk_.1)); have n2_ := zA (Kd.R_mono (ok' := fun k_ => some k_ ≠ (v363 : Value).ownBlock) (Kd.R_keptB ((Kd.R_apart' HO_8.out (Kd.R_typed HO_10.out) (by decide))) hkp (fun k_ hk_ hs_ => (hk_.2) hs_)) (fun k_ hk_ => hk_.1.1)); have n3_ := zA (Kd.R_reok rfl hy0 (fun k_ e_ => HO_10.out.1 k_ e_)); have n4_ := zA (Kd.R_mono (ok' := fun k_ => True) (Kd.R_keptB ((Kd.R_apart' HO_374001.out (Kd.R_typed HO_10.out) (by decide))) hkp (fun k_ hk_ hs_ => (hk_.2) hs_)) (fun k_ hk_ => trivial)); have n5_ := zA (blk_kept (by (with_reducible repeat (first | refine zM ?_ _ | refine zN ?_ | refine zO ?_ _)); exact BK356.out) hkp (fun hs_ => (fun e_ => (Kd.R_ne HO_10.out BK356.out (by decide)) e_) hs_)); have n6_ := zA (blk_kept (by (with_reducible repeat (first | refine zM ?_ _ | refine zN ?_ | refine zO ?_ _)); exact BK373.out) hkp (fun hs_ => (fun e_ => (Kd.R_ne HO_10.out BK373.out (by decide)) e_) hs_)); have n7_ := zA (hb); clear HO_4; clear HO_6; clear HO_8; clear HO_10; clear HO_374001; clear BK356; clear BK373; clear HB; have HO_4 := n0_; have HO_6 := n1_; have HO_8 := n2_; have HO_10 := n3_; have HO_374001 := n4_; have BK356 := n5_; have BK373 := n6_; have HB := n7_; clear n0_ n1_ n2_ n3_ n4_ n5_ n6_ n7_; (try clear hb); (try clear hkp); (try clear hy0)) | ((with_reducible refine gate_callee (f := 28) rfl ?_); refine goesL_ (some 87) rfl rfl Try.func28 (by kernel_rfl) rfl #[.slice Ao81 t393.length co81, .int .i64 1] rfl (by (try simp only [List.map_toArray, List.map_cons, List.map_nil]); first | done | (rw [show t393.length = t374.length from (zK HO_8.out).1.symm] <;> rfl) | rfl | (simp only [List.length_drop, List.length_take]; rfl)) ?_; (with_reducible refine (laws_heldPointS.calls kj45 _ _ t393 1 t396 _ ?side1 ?side2 A73.out).mono ?_); (case side1 => repeat (first | exact (zK HO_8.out).2.2 | (with_reducible refine zI ?_ _) | (with_reducible refine zH ?_ _) | (with_reducible refine zJ ?_))); (case side2 => rw [show t393.length = t374.length from (zK HO_8.out).1.symm]; exact (zK HO_8.out).2.1); rintro e w' ⟨rfl, ⟨nd, rfl⟩⟩; refine ⟨_, rfl, ?_⟩) | ((with_reducible refine gate_callee (f := 29) rfl ?_); refine goesL_ (some 92) rfl rfl Try.func29 (by kernel_rfl) rfl #[.slice Ao83 t395.length co83, .int .i64 t396] rfl (by (try simp only [List.map_toArray, List.map_cons, List.map_nil]); first | done | (rw [show t395.length = t378.length from (zK HO_10.out).1.symm] <;> rfl) | rfl | (simp only [List.length_drop, List.length_take]; rfl)) ?_; (with_reducible refine (laws_heldIntS.calls kj45 _ _ t395 t396 t397 _ ?side1 ?side2 A79.out).mono ?_); (case side1 => repeat (first | exact (zK HO_10.out).2.2 | (with_reducible refine zI ?_ _) | (with_reducible refine zH ?_ _) | (with_reducible refine zJ ?_))); (case side2 => rw [show t395.length = t378.length from (zK HO_10.out).1.symm]; exact (zK HO_10.out).2.1); rintro e w' ⟨rfl, ⟨nd, rfl⟩⟩; refine ⟨_, rfl, ?_⟩))
           go_ret
           exact ⟨by first | rfl | (simp [errW_none, errW_some] <;> rfl) | (simp [*, errW_none, errW_some] <;> rfl), by repeat (first | (with_reducible first | exact HB.out | apply zR | apply zP | apply zQ | refine zS ?_ GE356.out | refine zS ?_ GE373.out) | exact HB.out)⟩
          ·rw [if_neg c80] at H
           have c80b0 : decide (t397 < 0) = false := decide_eq_false c80
           clear c80
           by_cases c85 : t397 = t394
           ·rw [if_pos c85] at H
            have c85b0 : (t397 == t394) = true := beq_iff_eq.mpr c85
            have c85b1 : (t397 != t394) = false := bne_eq_false_iff_eq.mpr c85
            clear c85
            replace H := Option.bind_eq_some_iff.mp H
            obtain ⟨⟨t398, t399⟩, A860, H⟩ := H
            replace H : ((impl_SketchSolve.f kj45 t398 t399).bind fun bt402 => ((laws_eqPointS.f kj45 bt402.1 t362).bind fun t409 => (if t409 = true then (if bt402.2.1 = t365 then ((laws_eqIntS.f kj45 bt402.2.2 t366).bind fun t410 => (laws_FnExactSketchSolve.j2 kj45 t393 t395 t394 (!t410))) else (laws_FnExactSketchSolve.j2 kj45 t393 t395 t394 true)) else (laws_FnExactSketchSolve.j2 kj45 t393 t395 t394 true)))) = some r := H
            have A86 := zA A860
            clear A860
            replace H := Option.bind_eq_some_iff.mp H
            obtain ⟨⟨t402, t405, t406⟩, A870, H⟩ := H
            replace H : ((laws_eqPointS.f kj45 t402 t362).bind fun t409 => (if t409 = true then (if t405 = t365 then ((laws_eqIntS.f kj45 t406 t366).bind fun t410 => (laws_FnExactSketchSolve.j2 kj45 t393 t395 t394 (!t410))) else (laws_FnExactSketchSolve.j2 kj45 t393 t395 t394 true)) else (laws_FnExactSketchSolve.j2 kj45 t393 t395 t394 true))) = some r := H
            have A87 := zA A870
            clear A870
            have HC88 := zA H
            clear H
            obtain ⟨Ao89, co89, eo89⟩ := Kd.R_slice HO_8.out
            subst eo89
            go_upto_region 29 with (first | ((with_reducible refine gate_callee (f := 26) rfl ?_); refine goesL_ (some 81) rfl rfl Try.func26 (by kernel_rfl) rfl #[.slice Ao89 t374.length co89, .int .i64 1] rfl (by (try simp only [List.map_toArray, List.map_cons, List.map_nil]); first | done | rfl | (simp only [List.length_drop, List.length_take]; rfl)) ?_; (with_reducible refine (laws_markPointS.calls kj45 (fun k_ => some k_ = (.slice Ao89 t374.length co89 : Value).ownBlock) (.slice Ao89 t374.length co89) t374 1 t392 t393 w _ ?side1 ?side2 A71.out).mono ?_); (case side1 => repeat (first | (with_reducible first | exact HB.out | apply zR | apply zP | apply zQ | refine zS ?_ GE356.out | refine zS ?_ GE373.out) | exact HB.out)); (case side2 => exact Kd.R_tight rfl HO_8.out); rintro e w90 ⟨rfl, hy0, hb, hkp⟩; refine ⟨_, rfl, ?_⟩; have n0_ := zA (Kd.R_mono (ok' := fun k_ => some k_ ≠ (.slice Ao89 t374.length co89 : Value).ownBlock) (Kd.R_keptB (HO_4.out) hkp (fun k_ hk_ hs_ => (hk_) hs_)) (fun k_ hk_ => hk_.1)); have n1_ := zA (Kd.R_mono (ok' := fun k_ => some k_ ≠ (v379 : Value).ownBlock) (Kd.R_keptB ((Kd.R_apart' HO_6.out (Kd.R_typed HO_8.out) (by decide))) hkp (fun k_ hk_ hs_ => (hk_.2) hs_)) (fun k_ hk_ => hk_.1.1)); have n2_ := zA (Kd.R_reok rfl hy0 (fun k_ e_ => HO_8.out.1 k_ e_)); have n3_ := zA (Kd.R_mono (ok' := fun k_ => some k_ ≠ (v367 : Value).ownBlock) (Kd.R_keptB ((Kd.R_apart' HO_10.out (Kd.R_typed HO_8.out) (by decide))) hkp (fun k_ hk_ hs_ => (hk_.2) hs_)) (fun k_ hk_ => hk_.1.1)); have n4_ := zA (Kd.R_mono (ok' := fun k_ => True) (Kd.R_keptB ((Kd.R_apart' HO_374001.out (Kd.R_typed HO_8.out) (by decide))) hkp (fun k_ hk_ hs_ => (hk_.2) hs_)) (fun k_ hk_ => trivial)); have n5_ := zA (blk_kept (by (with_reducible repeat (first | refine zM ?_ _ | refine zN ?_ | refine zO ?_ _)); exact BK356.out) hkp (fun hs_ => (fun e_ => (Kd.R_ne HO_8.out BK356.out (by decide)) e_) hs_)); have n6_ := zA (blk_kept (by (with_reducible repeat (first | refine zM ?_ _ | refine zN ?_ | refine zO ?_ _)); exact BK373.out) hkp (fun hs_ => (fun e_ => (Kd.R_ne HO_8.out BK373.out (by decide)) e_) hs_)); have n7_ := zA (hb); clear HO_4; clear HO_6; clear HO_8; clear HO_10; clear HO_374001; clear BK356; clear BK373; clear HB; have HO_4 := n0_; have HO_6 := n1_; have HO_8 := n2_; have HO_10 := n3_; have HO_374001 := n4_; have BK356 := n5_; have BK373 := n6_; have HB := n7_; clear n0_ n1_ n2_ n3_ n4_ n5_ n6_ n7_; (try clear hb); (try clear hkp); (try clear hy0); obtain ⟨Ao91, co91, eo91⟩ := Kd.R_slice HO_10.out; subst eo91) | ((with_reducible refine gate_callee (f := 27) rfl ?_); refine goesL_ (some 84) rfl rfl Try.func27 (by kernel_rfl) rfl #[.slice Ao91 t378.length co91, .int .i64 t392] rfl (by (try simp only [List.map_toArray, List.map_cons, List.map_nil]); first | done | rfl | (simp only [List.length_drop, List.length_take]; rfl)) ?_; (with_reducible refine (laws_markIntS.calls kj45 (fun k_ => some k_ = (.slice Ao91 t378.length co91 : Value).ownBlock) (.slice Ao91 t378.length co91) t378 t392 t394 t395 w _ ?side1 ?side2 A72.out).mono ?_); (case side1 => repeat (first | (with_reducible first | exact HB.out | apply zR | apply zP | apply zQ | refine zS ?_ GE356.out | refine zS ?_ GE373.out) | exact HB.out)); (case side2 => exact Kd.R_tight rfl HO_10.out); rintro e w92 ⟨rfl, hy0, hb, hkp⟩; refine ⟨_, rfl, ?_⟩; have n0_ := zA (Kd.R_mono (ok' := fun k_ => some k_ ≠ (.slice Ao89 t374.length co89 : Value).ownBlock) (Kd.R_keptB ((Kd.R_apart' HO_4.out (Kd.R_typed HO_10.out) (by decide))) hkp (fun k_ hk_ hs_ => (hk_.2) hs_)) (fun k_ hk_ => hk_.1.1)); have n1_ := zA (Kd.R_mono (ok' := fun k_ => some k_ ≠ (.slice Ao91 t378.length co91 : Value).ownBlock) (Kd.R_keptB (HO_6.out) hkp (fun k_ hk_ hs_ => (hk_) hs_)) (fun k_ hk_ => hk_.1)); have n2_ := zA (Kd.R_mono (ok' := fun k_ => some k_ ≠ (v363 : Value).ownBlock) (Kd.R_keptB ((Kd.R_apart' HO_8.out (Kd.R_typed HO_10.out) (by decide))) hkp (fun k_ hk_ hs_ => (hk_.2) hs_)) (fun k_ hk_ => hk_.1.1)); have n3_ := zA (Kd.R_reok rfl hy0 (fun k_ e_ => HO_10.out.1 k_ e_)); have n4_ := zA (Kd.R_mono (ok' := fun k_ => True) (Kd.R_keptB ((Kd.R_apart' HO_374001.out (Kd.R_typed HO_10.out) (by decide))) hkp (fun k_ hk_ hs_ => (hk_.2) hs_)) (fun k_ hk_ => trivial)); have n5_ := zA (blk_kept (by (with_reducible repeat (first | refine zM ?_ _ | refine zN ?_ | refine zO ?_ _)); exact BK356.out) hkp (fun hs_ => (fun e_ => (Kd.R_ne HO_10.out BK356.out (by decide)) e_) hs_)); have n6_ := zA (blk_kept (by (with_reducible repeat (first | refine zM ?_ _ | refine zN ?_ | refine zO ?_ _)); exact BK373.out) hkp (fun hs_ => (fun e_ => (Kd.R_ne HO_10.out BK373.out (by decide)) e_) hs_)); have n7_ := zA (hb); clear HO_4; clear HO_6; clear HO_8; clear HO_10; clear HO_374001; clear BK356; clear BK373; clear HB; have HO_4 := n0_; have HO_6 := n1_; have HO_8 := n2_; have HO_10 := n3_; have HO_374001 := n4_; have BK356 := n5_; have BK373 := n6_; have HB := n7_; clear n0_ n1_ n2_ n3_ n4_ n5_ n6_ n7_; (try clear hb); (try clear hkp); (try clear hy0)) | ((with_reducible refine gate_callee (f := 28) rfl ?_); refine goesL_ (some 87) rfl rfl Try.func28 (by kernel_rfl) rfl #[.slice Ao89 t393.length co89, .int .i64 1] rfl (by (try simp only [List.map_toArray, List.map_cons, List.map_nil]); first | done | (rw [show t393.length = t374.length from (zK HO_8.out).1.symm] <;> rfl) | rfl | (simp only [List.length_drop, List.length_take]; rfl)) ?_; (with_reducible refine (laws_heldPointS.calls kj45 _ _ t393 1 t396 _ ?side1 ?side2 A73.out).mono ?_); (case side1 => repeat (first | exact (zK HO_8.out).2.2 | (with_reducible refine zI ?_ _) | (with_reducible refine zH ?_ _) | (with_reducible refine zJ ?_))); (case side2 => rw [show t393.length = t374.length from (zK HO_8.out).1.symm]; exact (zK HO_8.out).2.1); rintro e w' ⟨rfl, ⟨nd, rfl⟩⟩; refine ⟨_, rfl, ?_⟩) | ((with_reducible refine gate_callee (f := 29) rfl ?_); refine goesL_ (some 92) rfl rfl Try.func29 (by kernel_rfl) rfl #[.slice Ao91 t395.length co91, .int .i64 t396] rfl (by (try simp only [List.map_toArray, List.map_cons, List.map_nil]); first | done | (rw [show t395.length = t378.length from (zK HO_10.out).1.symm] <;> rfl) | rfl | (simp only [List.length_drop, List.length_take]; rfl)) ?_; (with_reducible refine (laws_heldIntS.calls kj45 _ _ t395 t396 t397 _ ?side1 ?side2 A79.out).mono ?_); (case side1 => repeat (first | exact (zK HO_10.out).2.2 | (with_reducible refine zI ?_ _) | (with_reducible refine zH ?_ _) | (with_reducible refine zJ ?_))); (case side2 => rw [show t395.length = t378.length from (zK HO_10.out).1.symm]; exact (zK HO_10.out).2.1); rintro e w' ⟨rfl, ⟨nd, rfl⟩⟩; refine ⟨_, rfl, ?_⟩; have hnb93 := NB356_373.out; have hnc93 := NB373_356.out; have hcz94_0 : w92.cell? ⟨gb356, 0, none⟩ = some (.int .i64 a0_0) := (blk_cell BK356.out 0).trans rfl; have hcz94_1 : w92.cell? ⟨gb356, 1, none⟩ = some (.slice A0_1 l0_1.length c0_1) := (blk_cell BK356.out 1).trans rfl; have hfz94_0 := blk_frozen BK356.out 0; have hfz94_1 := blk_frozen BK356.out 1) | ((with_reducible refine gate_callee (f := 17) rfl ?_); refine goesL_ (some 100) rfl rfl Try.func17 (by kernel_rfl) rfl #[.agg #[.int .i64 a0_0, .slice A0_1 l0_1.length c0_1]] rfl (by (try simp only [List.map_toArray, List.map_cons, List.map_nil]); first | done | rfl | (simp only [List.length_drop, List.length_take]; rfl)) ?_; (with_reducible refine (laws_toSketch.calls kj45 a0_0 _ _ l0_1 t398 t399 _ ?side1 ?side2 A86.out).mono ?_); (case side1 => repeat (first | exact (Kd.C_below HR0_1.out (by repeat (first | (with_reducible first | exact HB.out | apply zR | apply zP | apply zQ | refine zS ?_ GE356.out | refine zS ?_ GE373.out) | exact HB.out))) | (with_reducible refine zI ?_ _) | (with_reducible refine zH ?_ _) | (with_reducible refine zJ ?_))); (case side2 => exact HC0_1.out); rintro e w95 ⟨v400, rfl, ho0, hb⟩; refine ⟨_, rfl, ?_⟩; have n0_ := zA (zL (by (with_reducible repeat (first | apply zF | apply zE | apply zG)); exact HO_4.out) hb); have n1_ := zA (zL (by (with_reducible repeat (first | apply zF | apply zE | apply zG)); exact HO_6.out) hb); have n2_ := zA (zL (by (with_reducible repeat (first | apply zF | apply zE | apply zG)); exact HO_8.out) hb); have n3_ := zA (zL (by (with_reducible repeat (first | apply zF | apply zE | apply zG)); exact HO_10.out) hb); have n4_ := zA (Kd.R_elder' (by (with_reducible repeat (first | apply zF | apply zE | apply zG)); exact HO_374001.out) (Kd.R_base ho0) hb); have n5_ := zA (Kd.R_lower (Kd.R_new' ho0 (Kd.R_lt (by (with_reducible repeat (first | apply zF | apply zE | apply zG)); exact HO_374001.out))) (zT (by repeat (first | (with_reducible first | exact HB.out | apply zR | apply zP | apply zQ | refine zS ?_ GE356.out | refine zS ?_ GE373.out) | exact HB.out)))); have n6_ := zA (zU (g := gb356) (o := .cells #[.int .i64 a0_0, .slice A0_1 l0_1.length c0_1] 39 (0, 0)) (by (with_reducible repeat (first | refine zM ?_ _ | refine zN ?_ | refine zO ?_ _)); exact BK356.out) hb); have n7_ := zA (zU (g := gb373) (o := .cells #[.int .i64 t369, .slice Ao24 t389.length co24] 25 (0, 0)) (by (with_reducible repeat (first | refine zM ?_ _ | refine zN ?_ | refine zO ?_ _)); exact BK373.out) hb); have n8_ := zA (below_step (by repeat (first | (with_reducible first | exact HB.out | apply zR | apply zP | apply zQ | refine zS ?_ GE356.out | refine zS ?_ GE373.out) | exact HB.out)) hb); clear HO_4; clear HO_6; clear HO_8; clear HO_10; clear HO_374001; clear BK356; clear BK373; clear HB; have HO_4 := n0_; have HO_6 := n1_; have HO_8 := n2_; have HO_10 := n3_; have HO_374001 := n4_; have HO401 := n5_; have BK356 := n6_; have BK373 := n7_; have HB := n8_; clear n0_ n1_ n2_ n3_ n4_ n5_ n6_ n7_ n8_; (try clear hb); (try clear hb2); (try clear hk); (try clear hi); (try clear ho0); obtain ⟨Ao96, co96, eo96⟩ := Kd.R_slice HO401.out; subst eo96) | ((with_reducible refine gate_callee (f := 9) rfl ?_); refine goesL_ (some 101) rfl rfl Try.func9 (by kernel_rfl) rfl #[.agg #[.int .i64 t398, .slice Ao96 t399.length co96]] rfl (by (try simp only [List.map_toArray, List.map_cons, List.map_nil]); first | done | rfl | (simp only [List.length_drop, List.length_take]; rfl)) ?_; (with_reducible refine (impl_SketchSolve.calls kj45 t398 _ _ t399 t402 t405 t406 _ ?side1 ?side2 A87.out).mono ?_); (case side1 => repeat (first | exact (zK HO401.out).2.2 | (with_reducible refine zI ?_ _) | (with_reducible refine zH ?_ _) | (with_reducible refine zJ ?_))); (case side2 => exact (zK HO401.out).2.1); rintro e w97 ⟨v403, v407, rfl, ho0, ho1, hb⟩; refine ⟨_, rfl, ?_⟩; have n0_ := zA (Kd.R_elder' (by (with_reducible repeat (first | apply zF | apply zE | apply zG)); exact HO_4.out) (Kd.R_base ho0) hb); have n1_ := zA (Kd.R_elder' (by (with_reducible repeat (first | apply zF | apply zE | apply zG)); exact HO_6.out) (Kd.R_base ho1) hb); have n2_ := zA (Kd.R_elder' (by (with_reducible repeat (first | apply zF | apply zE | apply zG)); exact HO_8.out) (Kd.R_base ho0) hb); have n3_ := zA (Kd.R_elder' (by (with_reducible repeat (first | apply zF | apply zE | apply zG)); exact HO_10.out) (Kd.R_base ho1) hb); have n4_ := zA (zL (by (with_reducible repeat (first | apply zF | apply zE | apply zG)); exact HO_374001.out) hb); have n5_ := zA (zL (by (with_reducible repeat (first | apply zF | apply zE | apply zG)); exact HO401.out) hb); have n6_ := zA (Kd.R_lower (Kd.R_new' (Kd.R_new' ho0 (Kd.R_lt (by (with_reducible repeat (first | apply zF | apply zE | apply zG)); exact HO_4.out))) (Kd.R_lt (by (with_reducible repeat (first | apply zF | apply zE | apply zG)); exact HO_8.out))) (zT (by repeat (first | (with_reducible first | exact HB.out | apply zR | apply zP | apply zQ | refine zS ?_ GE356.out | refine zS ?_ GE373.out) | exact HB.out)))); have n7_ := zA (Kd.R_lower (Kd.R_new' (Kd.R_new' ho1 (Kd.R_lt (by (with_reducible repeat (first | apply zF | apply zE | apply zG)); exact HO_6.out))) (Kd.R_lt (by (with_reducible repeat (first | apply zF | apply zE | apply zG)); exact HO_10.out))) (zT (by repeat (first | (with_reducible first | exact HB.out | apply zR | apply zP | apply zQ | refine zS ?_ GE356.out | refine zS ?_ GE373.out) | exact HB.out)))); have n8_ := zA (zU (g := gb356) (o := .cells #[.int .i64 a0_0, .slice A0_1 l0_1.length c0_1] 39 (0, 0)) (by (with_reducible repeat (first | refine zM ?_ _ | refine zN ?_ | refine zO ?_ _)); exact BK356.out) hb); have n9_ := zA (zU (g := gb373) (o := .cells #[.int .i64 t369, .slice Ao24 t389.length co24] 25 (0, 0)) (by (with_reducible repeat (first | refine zM ?_ _ | refine zN ?_ | refine zO ?_ _)); exact BK373.out) hb); have n10_ := zA (below_step (by repeat (first | (with_reducible first | exact HB.out | apply zR | apply zP | apply zQ | refine zS ?_ GE356.out | refine zS ?_ GE373.out) | exact HB.out)) hb); clear HO_4; clear HO_6; clear HO_8; clear HO_10; clear HO_374001; clear HO401; clear BK356; clear BK373; clear HB; have HO_4 := n0_; have HO_6 := n1_; have HO_8 := n2_; have HO_10 := n3_; have HO_374001 := n4_; have HO401 := n5_; have HO404 := n6_; have HO408 := n7_; have BK356 := n8_; have BK373 := n9_; have HB := n10_; clear n0_ n1_ n2_ n3_ n4_ n5_ n6_ n7_ n8_ n9_ n10_; (try clear hb); (try clear hb2); (try clear hk); (try clear hi); (try clear ho0); (try clear ho1)))
            (try simp only [Act.put, zB, zC, zD])
            go_cut [119] (fun v119 wc => ∃ (kq : Nat) (x119_87 : Bool), v119 = .bool x119_87 ∧ Aside0 (laws_FnExactSketchSolve.j2 kq t393 t395 t394 x119_87 = some r) ∧ Aside0 (kq ≤ kj45) ∧ Aside0 (Kd.R k48 48 wc w.heap.size (fun _ => True) (.slice Ao89 t374.length co89) t393) ∧ Aside0 (Kd.R (Kd.int .i64) 3 wc w.heap.size (fun _ => True) (.slice Ao91 t378.length co91) t395) ∧ Aside0 (Kd.R k35 35 wc w.heap.size (fun _ => True) (.slice Ao24 t389.length co24) t389) ∧ Aside0 (wc.heap[gb356]? = some (.cells #[.int .i64 a0_0, (.slice A0_1 l0_1.length c0_1)] 39 (0, 0))) ∧ Aside0 (wc.heap[gb373]? = some (.cells #[.int .i64 t369, (.slice Ao24 t389.length co24)] 25 (0, 0))) ∧ Aside0 (Below w.heap.size w wc))
            case first =>
             have H := HC88.out
             clear HC88
             replace H := Option.bind_eq_some_iff.mp H
             obtain ⟨t409, A980, H⟩ := H
             replace H : (if t409 = true then (if t405 = t365 then ((laws_eqIntS.f kj45 t406 t366).bind fun t410 => (laws_FnExactSketchSolve.j2 kj45 t393 t395 t394 (!t410))) else (laws_FnExactSketchSolve.j2 kj45 t393 t395 t394 true)) else (laws_FnExactSketchSolve.j2 kj45 t393 t395 t394 true)) = some r := H
             have A98 := zA A980
             clear A980
             by_cases c99 : t409 = true
             ·subst c99
              have H1 : (if t405 = t365 then ((laws_eqIntS.f kj45 t406 t366).bind fun t410 => (laws_FnExactSketchSolve.j2 kj45 t393 t395 t394 (!t410))) else (laws_FnExactSketchSolve.j2 kj45 t393 t395 t394 true)) = some r := by rw [if_pos rfl] at H; exact H
              clear H
              have H := H1
              clear H1
              by_cases c100 : t405 = t365
              ·rw [if_pos c100] at H
               have c100b0 : (t405 == t365) = true := beq_iff_eq.mpr c100
               have c100b1 : (t405 != t365) = false := bne_eq_false_iff_eq.mpr c100
               clear c100
               (first | rw [c100b0] | (simp only [i64_w, i32_w]; rw [c100b0]) | skip)
               replace H := Option.bind_eq_some_iff.mp H
               obtain ⟨t410, A1010, H⟩ := H
               replace H : (laws_FnExactSketchSolve.j2 kj45 t393 t395 t394 (!t410)) = some r := H
               have A101 := zA A1010
               clear A1010
               have H' := zA H
               clear H
               obtain ⟨Ao102, co102, eo102⟩ := Kd.R_slice HO404.out
               subst eo102
               obtain ⟨Ao103, co103, eo103⟩ := Kd.R_slice HO_4.out
               subst eo103
               go_wp2_with (first | ((with_reducible refine gate_callee (f := 23) rfl ?_); refine goesL_ (some 107) rfl rfl Try.func23 (by kernel_rfl) rfl #[.slice Ao102 t402.length co102, .slice Ao103 t362.length co103] rfl (by (try simp only [List.map_toArray, List.map_cons, List.map_nil]); first | done | rfl | (simp only [List.length_drop, List.length_take]; rfl)) ?_; (with_reducible refine (laws_eqPointS.calls kj45 _ _ t402 _ _ t362 true _ ?side1 ?side2 ?side3 ?side4 A98.out).mono ?_); (case side1 => repeat (first | exact (zK HO404.out).2.2 | (with_reducible refine zI ?_ _) | (with_reducible refine zH ?_ _) | (with_reducible refine zJ ?_))); (case side2 => exact (zK HO404.out).2.1); (case side3 => repeat (first | exact (zK HO_4.out).2.2 | (with_reducible refine zI ?_ _) | (with_reducible refine zH ?_ _) | (with_reducible refine zJ ?_))); (case side4 => exact (zK HO_4.out).2.1); rintro e w104 ⟨rfl, hb⟩; refine ⟨_, rfl, ?_⟩; have n0_ := zA (zL (by (with_reducible repeat (first | apply zF | apply zE | apply zG)); exact HO_4.out) hb); have n1_ := zA (zL (by (with_reducible repeat (first | apply zF | apply zE | apply zG)); exact HO_6.out) hb); have n2_ := zA (zL (by (with_reducible repeat (first | apply zF | apply zE | apply zG)); exact HO_8.out) hb); have n3_ := zA (zL (by (with_reducible repeat (first | apply zF | apply zE | apply zG)); exact HO_10.out) hb); have n4_ := zA (zL (by (with_reducible repeat (first | apply zF | apply zE | apply zG)); exact HO_374001.out) hb); have n5_ := zA (zL (by (with_reducible repeat (first | apply zF | apply zE | apply zG)); exact HO401.out) hb); have n6_ := zA (zL (by (with_reducible repeat (first | apply zF | apply zE | apply zG)); exact HO404.out) hb); have n7_ := zA (zL (by (with_reducible repeat (first | apply zF | apply zE | apply zG)); exact HO408.out) hb); have n8_ := zA (zU (g := gb356) (o := .cells #[.int .i64 a0_0, .slice A0_1 l0_1.length c0_1] 39 (0, 0)) (by (with_reducible repeat (first | refine zM ?_ _ | refine zN ?_ | refine zO ?_ _)); exact BK356.out) hb); have n9_ := zA (zU (g := gb373) (o := .cells #[.int .i64 t369, .slice Ao24 t389.length co24] 25 (0, 0)) (by (with_reducible repeat (first | refine zM ?_ _ | refine zN ?_ | refine zO ?_ _)); exact BK373.out) hb); have n10_ := zA (below_step (by repeat (first | (with_reducible first | exact HB.out | apply zR | apply zP | apply zQ | refine zS ?_ GE356.out | refine zS ?_ GE373.out) | exact HB.out)) hb); clear HO_4; clear HO_6; clear HO_8; clear HO_10; clear HO_374001; clear HO401; clear HO404; clear HO408; clear BK356; clear BK373; clear HB; have HO_4 := n0_; have HO_6 := n1_; have HO_8 := n2_; have HO_10 := n3_; have HO_374001 := n4_; have HO401 := n5_; have HO404 := n6_; have HO408 := n7_; have BK356 := n8_; have BK373 := n9_; have HB := n10_; clear n0_ n1_ n2_ n3_ n4_ n5_ n6_ n7_ n8_ n9_ n10_; (try clear hb); (try clear hb2); (try clear hk); (try clear hi); obtain ⟨Ao105, co105, eo105⟩ := Kd.R_slice HO408.out; subst eo105; obtain ⟨Ao106, co106, eo106⟩ := Kd.R_slice HO_6.out; subst eo106) | (go_at_call 24; (with_reducible refine (laws_eqIntS.calls kj45 _ _ t406 _ _ t366 t410 _ ?side1 ?side2 ?side3 ?side4 A101.out).mono ?_); (case side1 => repeat (first | exact (zK HO408.out).2.2 | (with_reducible refine zI ?_ _) | (with_reducible refine zH ?_ _) | (with_reducible refine zJ ?_))); (case side2 => exact (zK HO408.out).2.1); (case side3 => repeat (first | exact (zK HO_6.out).2.2 | (with_reducible refine zI ?_ _) | (with_reducible refine zH ?_ _) | (with_reducible refine zJ ?_))); (case side4 => exact (zK HO_6.out).2.1); rintro e w' ⟨rfl, ⟨nd, rfl⟩⟩))
               go_meet
               case rel => exact ⟨_, (!t410), (by first | rfl | (simp; done) | (simp [*]; done)), H', ⟨by have := HJ10.out; have := HJ45.out; first | omega | exact Nat.le_refl _⟩, ⟨by (try simp only [hl374001_45]); (with_reducible repeat (first | apply zF | apply zE | apply zG)); exact Kd.R_mono HO_8.out (fun _ hk => trivial)⟩, ⟨by (try simp only [hl374001_45]); (with_reducible repeat (first | apply zF | apply zE | apply zG)); exact Kd.R_mono HO_10.out (fun _ hk => trivial)⟩, ⟨by (try simp only [hl374001_45]); (with_reducible repeat (first | apply zF | apply zE | apply zG)); exact Kd.R_mono HO_374001.out (fun _ hk => trivial)⟩, ⟨by (try simp only [hl374001_45]); (with_reducible repeat (first | refine zM ?_ _ | refine zN ?_ | refine zO ?_ _)); exact BK356.out⟩, ⟨by (try simp only [hl374001_45]); (with_reducible repeat (first | refine zM ?_ _ | refine zN ?_ | refine zO ?_ _)); exact BK373.out⟩, ⟨by repeat (first | (with_reducible first | exact HB.out | apply zR | apply zP | apply zQ | refine zS ?_ GE356.out | refine zS ?_ GE373.out) | exact HB.out)⟩⟩
              ·rw [if_neg c100] at H
               have c100b0 : (t405 == t365) = false := beq_eq_false_iff_ne.mpr c100
               have c100b1 : (t405 != t365) = true := bne_iff_ne.mpr c100
               (first | rw [c100b0] | (simp only [i64_w, i32_w]; rw [c100b0]) | skip)
               have H' := zA H
               clear H
               obtain ⟨Ao107, co107, eo107⟩ := Kd.R_slice HO404.out
               subst eo107
               obtain ⟨Ao108, co108, eo108⟩ := Kd.R_slice HO_4.out
               subst eo108
               go_wp2_with (first | ((with_reducible refine gate_callee (f := 23) rfl ?_); refine goesL_ (some 107) rfl rfl Try.func23 (by kernel_rfl) rfl #[.slice Ao107 t402.length co107, .slice Ao108 t362.length co108] rfl (by (try simp only [List.map_toArray, List.map_cons, List.map_nil]); first | done | rfl | (simp only [List.length_drop, List.length_take]; rfl)) ?_; (with_reducible refine (laws_eqPointS.calls kj45 _ _ t402 _ _ t362 true _ ?side1 ?side2 ?side3 ?side4 A98.out).mono ?_); (case side1 => repeat (first | exact (zK HO404.out).2.2 | (with_reducible refine zI ?_ _) | (with_reducible refine zH ?_ _) | (with_reducible refine zJ ?_))); (case side2 => exact (zK HO404.out).2.1); (case side3 => repeat (first | exact (zK HO_4.out).2.2 | (with_reducible refine zI ?_ _) | (with_reducible refine zH ?_ _) | (with_reducible refine zJ ?_))); (case side4 => exact (zK HO_4.out).2.1); rintro e w109 ⟨rfl, hb⟩; refine ⟨_, rfl, ?_⟩; have n0_ := zA (zL (by (with_reducible repeat (first | apply zF | apply zE | apply zG)); exact HO_4.out) hb); have n1_ := zA (zL (by (with_reducible repeat (first | apply zF | apply zE | apply zG)); exact HO_6.out) hb); have n2_ := zA (zL (by (with_reducible repeat (first | apply zF | apply zE | apply zG)); exact HO_8.out) hb); have n3_ := zA (zL (by (with_reducible repeat (first | apply zF | apply zE | apply zG)); exact HO_10.out) hb); have n4_ := zA (zL (by (with_reducible repeat (first | apply zF | apply zE | apply zG)); exact HO_374001.out) hb); have n5_ := zA (zL (by (with_reducible repeat (first | apply zF | apply zE | apply zG)); exact HO401.out) hb); have n6_ := zA (zL (by (with_reducible repeat (first | apply zF | apply zE | apply zG)); exact HO404.out) hb); have n7_ := zA (zL (by (with_reducible repeat (first | apply zF | apply zE | apply zG)); exact HO408.out) hb); have n8_ := zA (zU (g := gb356) (o := .cells #[.int .i64 a0_0, .slice A0_1 l0_1.length c0_1] 39 (0, 0)) (by (with_reducible repeat (first | refine zM ?_ _ | refine zN ?_ | refine zO ?_ _)); exact BK356.out) hb); have n9_ := zA (zU (g := gb373) (o := .cells #[.int .i64 t369, .slice Ao24 t389.length co24] 25 (0, 0)) (by (with_reducible repeat (first | refine zM ?_ _ | refine zN ?_ | refine zO ?_ _)); exact BK373.out) hb); have n10_ := zA (below_step (by repeat (first | (with_reducible first | exact HB.out | apply zR | apply zP | apply zQ | refine zS ?_ GE356.out | refine zS ?_ GE373.out) | exact HB.out)) hb); clear HO_4; clear HO_6; clear HO_8; clear HO_10; clear HO_374001; clear HO401; clear HO404; clear HO408; clear BK356; clear BK373; clear HB; have HO_4 := n0_; have HO_6 := n1_; have HO_8 := n2_; have HO_10 := n3_; have HO_374001 := n4_; have HO401 := n5_; have HO404 := n6_; have HO408 := n7_; have BK356 := n8_; have BK373 := n9_; have HB := n10_; clear n0_ n1_ n2_ n3_ n4_ n5_ n6_ n7_ n8_ n9_ n10_; (try clear hb); (try clear hb2); (try clear hk); (try clear hi)))
               go_meet
               case rel => exact ⟨_, (true), (by first | rfl | (simp; done) | (simp [*]; done)), H', ⟨by have := HJ10.out; have := HJ45.out; first | omega | exact Nat.le_refl _⟩, ⟨by (try simp only [hl374001_45]); (with_reducible repeat (first | apply zF | apply zE | apply zG)); exact Kd.R_mono HO_8.out (fun _ hk => trivial)⟩, ⟨by (try simp only [hl374001_45]); (with_reducible repeat (first | apply zF | apply zE | apply zG)); exact Kd.R_mono HO_10.out (fun _ hk => trivial)⟩, ⟨by (try simp only [hl374001_45]); (with_reducible repeat (first | apply zF | apply zE | apply zG)); exact Kd.R_mono HO_374001.out (fun _ hk => trivial)⟩, ⟨by (try simp only [hl374001_45]); (with_reducible repeat (first | refine zM ?_ _ | refine zN ?_ | refine zO ?_ _)); exact BK356.out⟩, ⟨by (try simp only [hl374001_45]); (with_reducible repeat (first | refine zM ?_ _ | refine zN ?_ | refine zO ?_ _)); exact BK373.out⟩, ⟨by repeat (first | (with_reducible first | exact HB.out | apply zR | apply zP | apply zQ | refine zS ?_ GE356.out | refine zS ?_ GE373.out) | exact HB.out)⟩⟩
             ·replace c99 := Bool.eq_false_iff.mpr c99
              subst c99
              have H1 : (laws_FnExactSketchSolve.j2 kj45 t393 t395 t394 true) = some r := by rw [if_neg (show ¬ (false = true) by decide)] at H; exact H
              clear H
              have H := H1
              clear H1
              have H' := zA H
              clear H
              obtain ⟨Ao110, co110, eo110⟩ := Kd.R_slice HO404.out
              subst eo110
              obtain ⟨Ao111, co111, eo111⟩ := Kd.R_slice HO_4.out
              subst eo111
              go_wp2_with (first | ((with_reducible refine gate_callee (f := 23) rfl ?_); refine goesL_ (some 107) rfl rfl Try.func23 (by kernel_rfl) rfl #[.slice Ao110 t402.length co110, .slice Ao111 t362.length co111] rfl (by (try simp only [List.map_toArray, List.map_cons, List.map_nil]); first | done | rfl | (simp only [List.length_drop, List.length_take]; rfl)) ?_; (with_reducible refine (laws_eqPointS.calls kj45 _ _ t402 _ _ t362 false _ ?side1 ?side2 ?side3 ?side4 A98.out).mono ?_); (case side1 => repeat (first | exact (zK HO404.out).2.2 | (with_reducible refine zI ?_ _) | (with_reducible refine zH ?_ _) | (with_reducible refine zJ ?_))); (case side2 => exact (zK HO404.out).2.1); (case side3 => repeat (first | exact (zK HO_4.out).2.2 | (with_reducible refine zI ?_ _) | (with_reducible refine zH ?_ _) | (with_reducible refine zJ ?_))); (case side4 => exact (zK HO_4.out).2.1); rintro e w112 ⟨rfl, hb⟩; refine ⟨_, rfl, ?_⟩; have n0_ := zA (zL (by (with_reducible repeat (first | apply zF | apply zE | apply zG)); exact HO_4.out) hb); have n1_ := zA (zL (by (with_reducible repeat (first | apply zF | apply zE | apply zG)); exact HO_6.out) hb); have n2_ := zA (zL (by (with_reducible repeat (first | apply zF | apply zE | apply zG)); exact HO_8.out) hb); have n3_ := zA (zL (by (with_reducible repeat (first | apply zF | apply zE | apply zG)); exact HO_10.out) hb); have n4_ := zA (zL (by (with_reducible repeat (first | apply zF | apply zE | apply zG)); exact HO_374001.out) hb); have n5_ := zA (zL (by (with_reducible repeat (first | apply zF | apply zE | apply zG)); exact HO401.out) hb); have n6_ := zA (zL (by (with_reducible repeat (first | apply zF | apply zE | apply zG)); exact HO404.out) hb); have n7_ := zA (zL (by (with_reducible repeat (first | apply zF | apply zE | apply zG)); exact HO408.out) hb); have n8_ := zA (zU (g := gb356) (o := .cells #[.int .i64 a0_0, .slice A0_1 l0_1.length c0_1] 39 (0, 0)) (by (with_reducible repeat (first | refine zM ?_ _ | refine zN ?_ | refine zO ?_ _)); exact BK356.out) hb); have n9_ := zA (zU (g := gb373) (o := .cells #[.int .i64 t369, .slice Ao24 t389.length co24] 25 (0, 0)) (by (with_reducible repeat (first | refine zM ?_ _ | refine zN ?_ | refine zO ?_ _)); exact BK373.out) hb); have n10_ := zA (below_step (by repeat (first | (with_reducible first | exact HB.out | apply zR | apply zP | apply zQ | refine zS ?_ GE356.out | refine zS ?_ GE373.out) | exact HB.out)) hb); clear HO_4; clear HO_6; clear HO_8; clear HO_10; clear HO_374001; clear HO401; clear HO404; clear HO408; clear BK356; clear BK373; clear HB; have HO_4 := n0_; have HO_6 := n1_; have HO_8 := n2_; have HO_10 := n3_; have HO_374001 := n4_; have HO401 := n5_; have HO404 := n6_; have HO408 := n7_; have BK356 := n8_; have BK373 := n9_; have HB := n10_; clear n0_ n1_ n2_ n3_ n4_ n5_ n6_ n7_ n8_ n9_ n10_; (try clear hb); (try clear hb2); (try clear hk); (try clear hi)))
              go_meet
              case rel => exact ⟨_, (true), (by first | rfl | (simp; done) | (simp [*]; done)), H', ⟨by have := HJ10.out; have := HJ45.out; first | omega | exact Nat.le_refl _⟩, ⟨by (try simp only [hl374001_45]); (with_reducible repeat (first | apply zF | apply zE | apply zG)); exact Kd.R_mono HO_8.out (fun _ hk => trivial)⟩, ⟨by (try simp only [hl374001_45]); (with_reducible repeat (first | apply zF | apply zE | apply zG)); exact Kd.R_mono HO_10.out (fun _ hk => trivial)⟩, ⟨by (try simp only [hl374001_45]); (with_reducible repeat (first | apply zF | apply zE | apply zG)); exact Kd.R_mono HO_374001.out (fun _ hk => trivial)⟩, ⟨by (try simp only [hl374001_45]); (with_reducible repeat (first | refine zM ?_ _ | refine zN ?_ | refine zO ?_ _)); exact BK356.out⟩, ⟨by (try simp only [hl374001_45]); (with_reducible repeat (first | refine zM ?_ _ | refine zN ?_ | refine zO ?_ _)); exact BK373.out⟩, ⟨by repeat (first | (with_reducible first | exact HB.out | apply zR | apply zP | apply zQ | refine zS ?_ GE356.out | refine zS ?_ GE373.out) | exact HB.out)⟩⟩
            case rest =>
             clear HC88
             try clear c1
             try clear c2
             try clear p2
             try clear c3
             try clear c3b0
             try clear c4
             try clear c5
             try clear c6
             try clear c7
             try clear c8
             try clear c9
             try clear c10
             try clear c15
             try clear c17
             try clear c19
             try clear c22
             try clear c23
             try clear c25
             try clear c26
             try clear c27
             try clear c28
             try clear c28b0
             try clear c28b1
             try clear c29
             try clear c41
             try clear c44
             try clear c51
             try clear c54
             try clear c54b0
             try clear c56
             try clear c57
             try clear c57b0
             try clear c57b1
             try clear c70
             try clear c74
             try clear c74b0
             try clear c80
             try clear c80b0
             try clear c85
             try clear c85b0
             try clear c85b1
             try clear c93
             try clear c99
             try clear c100
             try clear c100b0
             try clear c100b1
             try clear hcz13_0
             try clear hcz13_1
             try clear hcz15_0
             try clear hcz15_1
             try clear hcz19_0
             try clear hcz19_1
             try clear hcz23_0
             try clear hcz23_1
             try clear hcz52_0
             try clear hcz52_1
             try clear hcz5_0
             try clear hcz5_1
             try clear hcz94_0
             try clear hcz94_1
             try clear hfz13_0
             try clear hfz13_1
             try clear hfz15_0
             try clear hfz15_1
             try clear hfz19_0
             try clear hfz19_1
             try clear hfz23_0
             try clear hfz23_1
             try clear hfz52_0
             try clear hfz52_1
             try clear hfz5_0
             try clear hfz5_1
             try clear hfz94_0
             try clear hfz94_1
             try clear p2
             obtain ⟨kq, x119_87, rfl, HA, HJ87, HO_8, HO_10, HO_374001, BK356, BK373, HB⟩ := hcut
             have hl8_87 := (zK HO_8.out).1
             rw [hl8_87] at HO_8
             (try simp only [hl8_87])
             (try simp only [hl8_87] at BK356)
             (try simp only [hl8_87] at BK373)
             (try simp only [hl8_87] at HO_10)
             (try simp only [hl8_87] at HO_374001)
             have hl10_87 := (zK HO_10.out).1
             rw [hl10_87] at HO_10
             (try simp only [hl10_87])
             (try simp only [hl10_87] at BK356)
             (try simp only [hl10_87] at BK373)
             (try simp only [hl10_87] at HO_8)
             (try simp only [hl10_87] at HO_374001)
             cases kq with
             | zero => exact absurd HA.out (by simp [laws_FnExactSketchSolve.j2])
             | succ kj87 =>
              have H := HA.out
              clear HA
              simp only [laws_FnExactSketchSolve.j2] at H
              by_cases c113 : x119_87 = true
              ·subst c113
               have H1 : (some false) = some r := by rw [if_pos rfl] at H; exact H
               clear H
               have H := H1
               clear H1
               obtain rfl := Option.some.inj H
               go_wp2
               go_ret
               exact ⟨by first | rfl | (simp [errW_none, errW_some] <;> rfl) | (simp [*, errW_none, errW_some] <;> rfl), by repeat (first | (with_reducible first | exact HB.out | apply zR | apply zP | apply zQ | refine zS ?_ GE356.out | refine zS ?_ GE373.out) | exact HB.out)⟩
              ·replace c113 := Bool.eq_false_iff.mpr c113
               subst c113
               have H1 : ((laws_heldPointS.f kj87 t393 1).bind fun t411 => (if t411 < 0 then (some false) else ((laws_heldIntS.f kj87 t395 t411).bind fun t412 => (if t412 < 0 then (some false) else (if t412 = t394 then (some true) else (some false)))))) = some r := by rw [if_neg (show ¬ (false = true) by decide)] at H; exact H
               clear H
               have H := H1
               clear H1
               replace H := Option.bind_eq_some_iff.mp H
               obtain ⟨t411, A1140, H⟩ := H
               replace H : (if t411 < 0 then (some false) else ((laws_heldIntS.f kj87 t395 t411).bind fun t412 => (if t412 < 0 then (some false) else (if t412 = t394 then (some true) else (some false))))) = some r := H
               have A114 := zA A1140
               clear A1140
               by_cases c115 : t411 < 0
               ·rw [if_pos c115] at H
                have c115b0 : decide (t411 < 0) = true := decide_eq_true c115
                clear c115
                obtain rfl := Option.some.inj H
                go_wp2_with (first | ((with_reducible refine gate_callee (f := 28) rfl ?_); refine goesL_ (some 122) rfl rfl Try.func28 (by kernel_rfl) rfl #[.slice Ao89 t393.length co89, .int .i64 1] rfl (by (try simp only [List.map_toArray, List.map_cons, List.map_nil]); first | done | rfl | (simp only [List.length_drop, List.length_take]; rfl)) ?_; (with_reducible refine (laws_heldPointS.calls kj87 _ _ t393 1 t411 _ ?side1 ?side2 A114.out).mono ?_); (case side1 => repeat (first | exact (zK HO_8.out).2.2 | (with_reducible refine zI ?_ _) | (with_reducible refine zH ?_ _) | (with_reducible refine zJ ?_))); (case side2 => exact (zK HO_8.out).2.1); rintro e w' ⟨rfl, ⟨nd, rfl⟩⟩; refine ⟨_, rfl, ?_⟩))
                go_ret
                exact ⟨by first | rfl | (simp [errW_none, errW_some] <;> rfl) | (simp [*, errW_none, errW_some] <;> rfl), by repeat (first | (with_reducible first | exact HB.out | apply zR | apply zP | apply zQ | refine zS ?_ GE356.out | refine zS ?_ GE373.out) | exact HB.out)⟩
               ·rw [if_neg c115] at H
                have c115b0 : decide (t411 < 0) = false := decide_eq_false c115
                clear c115
                replace H := Option.bind_eq_some_iff.mp H
                obtain ⟨t412, A1160, H⟩ := H
                replace H : (if t412 < 0 then (some false) else (if t412 = t394 then (some true) else (some false))) = some r := H
                have A116 := zA A1160
                clear A1160
                by_cases c117 : t412 < 0
                ·rw [if_pos c117] at H
                 have c117b0 : decide (t412 < 0) = true := decide_eq_true c117
                 clear c117
                 obtain rfl := Option.some.inj H
                 go_wp2_with (first | ((with_reducible refine gate_callee (f := 28) rfl ?_); refine goesL_ (some 122) rfl rfl Try.func28 (by kernel_rfl) rfl #[.slice Ao89 t393.length co89, .int .i64 1] rfl (by (try simp only [List.map_toArray, List.map_cons, List.map_nil]); first | done | rfl | (simp only [List.length_drop, List.length_take]; rfl)) ?_; (with_reducible refine (laws_heldPointS.calls kj87 _ _ t393 1 t411 _ ?side1 ?side2 A114.out).mono ?_); (case side1 => repeat (first | exact (zK HO_8.out).2.2 | (with_reducible refine zI ?_ _) | (with_reducible refine zH ?_ _) | (with_reducible refine zJ ?_))); (case side2 => exact (zK HO_8.out).2.1); rintro e w' ⟨rfl, ⟨nd, rfl⟩⟩; refine ⟨_, rfl, ?_⟩) | ((with_reducible refine gate_callee (f := 29) rfl ?_); refine goesL_ (some 127) rfl rfl Try.func29 (by kernel_rfl) rfl #[.slice Ao91 t395.length co91, .int .i64 t411] rfl (by (try simp only [List.map_toArray, List.map_cons, List.map_nil]); first | done | rfl | (simp only [List.length_drop, List.length_take]; rfl)) ?_; (with_reducible refine (laws_heldIntS.calls kj87 _ _ t395 t411 t412 _ ?side1 ?side2 A116.out).mono ?_); (case side1 => repeat (first | exact (zK HO_10.out).2.2 | (with_reducible refine zI ?_ _) | (with_reducible refine zH ?_ _) | (with_reducible refine zJ ?_))); (case side2 => exact (zK HO_10.out).2.1); rintro e w' ⟨rfl, ⟨nd, rfl⟩⟩; refine ⟨_, rfl, ?_⟩))
                 go_ret
                 exact ⟨by first | rfl | (simp [errW_none, errW_some] <;> rfl) | (simp [*, errW_none, errW_some] <;> rfl), by repeat (first | (with_reducible first | exact HB.out | apply zR | apply zP | apply zQ | refine zS ?_ GE356.out | refine zS ?_ GE373.out) | exact HB.out)⟩
                ·rw [if_neg c117] at H
                 have c117b0 : decide (t412 < 0) = false := decide_eq_false c117
                 clear c117
                 by_cases c118 : t412 = t394
                 ·rw [if_pos c118] at H
                  have c118b0 : (t412 == t394) = true := beq_iff_eq.mpr c118
                  have c118b1 : (t412 != t394) = false := bne_eq_false_iff_eq.mpr c118
                  clear c118
                  obtain rfl := Option.some.inj H
                  go_wp2_with (first | ((with_reducible refine gate_callee (f := 28) rfl ?_); refine goesL_ (some 122) rfl rfl Try.func28 (by kernel_rfl) rfl #[.slice Ao89 t393.length co89, .int .i64 1] rfl (by (try simp only [List.map_toArray, List.map_cons, List.map_nil]); first | done | rfl | (simp only [List.length_drop, List.length_take]; rfl)) ?_; (with_reducible refine (laws_heldPointS.calls kj87 _ _ t393 1 t411 _ ?side1 ?side2 A114.out).mono ?_); (case side1 => repeat (first | exact (zK HO_8.out).2.2 | (with_reducible refine zI ?_ _) | (with_reducible refine zH ?_ _) | (with_reducible refine zJ ?_))); (case side2 => exact (zK HO_8.out).2.1); rintro e w' ⟨rfl, ⟨nd, rfl⟩⟩; refine ⟨_, rfl, ?_⟩) | ((with_reducible refine gate_callee (f := 29) rfl ?_); refine goesL_ (some 127) rfl rfl Try.func29 (by kernel_rfl) rfl #[.slice Ao91 t395.length co91, .int .i64 t411] rfl (by (try simp only [List.map_toArray, List.map_cons, List.map_nil]); first | done | rfl | (simp only [List.length_drop, List.length_take]; rfl)) ?_; (with_reducible refine (laws_heldIntS.calls kj87 _ _ t395 t411 t412 _ ?side1 ?side2 A116.out).mono ?_); (case side1 => repeat (first | exact (zK HO_10.out).2.2 | (with_reducible refine zI ?_ _) | (with_reducible refine zH ?_ _) | (with_reducible refine zJ ?_))); (case side2 => exact (zK HO_10.out).2.1); rintro e w' ⟨rfl, ⟨nd, rfl⟩⟩; refine ⟨_, rfl, ?_⟩))
                  go_ret
                  exact ⟨by first | rfl | (simp [errW_none, errW_some] <;> rfl) | (simp [*, errW_none, errW_some] <;> rfl), by repeat (first | (with_reducible first | exact HB.out | apply zR | apply zP | apply zQ | refine zS ?_ GE356.out | refine zS ?_ GE373.out) | exact HB.out)⟩
                 ·rw [if_neg c118] at H
                  have c118b0 : (t412 == t394) = false := beq_eq_false_iff_ne.mpr c118
                  have c118b1 : (t412 != t394) = true := bne_iff_ne.mpr c118
                  obtain rfl := Option.some.inj H
                  go_wp2_with (first | ((with_reducible refine gate_callee (f := 28) rfl ?_); refine goesL_ (some 122) rfl rfl Try.func28 (by kernel_rfl) rfl #[.slice Ao89 t393.length co89, .int .i64 1] rfl (by (try simp only [List.map_toArray, List.map_cons, List.map_nil]); first | done | rfl | (simp only [List.length_drop, List.length_take]; rfl)) ?_; (with_reducible refine (laws_heldPointS.calls kj87 _ _ t393 1 t411 _ ?side1 ?side2 A114.out).mono ?_); (case side1 => repeat (first | exact (zK HO_8.out).2.2 | (with_reducible refine zI ?_ _) | (with_reducible refine zH ?_ _) | (with_reducible refine zJ ?_))); (case side2 => exact (zK HO_8.out).2.1); rintro e w' ⟨rfl, ⟨nd, rfl⟩⟩; refine ⟨_, rfl, ?_⟩) | ((with_reducible refine gate_callee (f := 29) rfl ?_); refine goesL_ (some 127) rfl rfl Try.func29 (by kernel_rfl) rfl #[.slice Ao91 t395.length co91, .int .i64 t411] rfl (by (try simp only [List.map_toArray, List.map_cons, List.map_nil]); first | done | rfl | (simp only [List.length_drop, List.length_take]; rfl)) ?_; (with_reducible refine (laws_heldIntS.calls kj87 _ _ t395 t411 t412 _ ?side1 ?side2 A116.out).mono ?_); (case side1 => repeat (first | exact (zK HO_10.out).2.2 | (with_reducible refine zI ?_ _) | (with_reducible refine zH ?_ _) | (with_reducible refine zJ ?_))); (case side2 => exact (zK HO_10.out).2.1); rintro e w' ⟨rfl, ⟨nd, rfl⟩⟩; refine ⟨_, rfl, ?_⟩))
                  go_ret
                  exact ⟨by first | rfl | (simp [errW_none, errW_some] <;> rfl) | (simp [*, errW_none, errW_some] <;> rfl), by repeat (first | (with_reducible first | exact HB.out | apply zR | apply zP | apply zQ | refine zS ?_ GE356.out | refine zS ?_ GE373.out) | exact HB.out)⟩
           ·rw [if_neg c85] at H
            have c85b0 : (t397 == t394) = false := beq_eq_false_iff_ne.mpr c85
            have c85b1 : (t397 != t394) = true := bne_iff_ne.mpr c85
            obtain rfl := Option.some.inj H
            obtain ⟨Ao119, co119, eo119⟩ := Kd.R_slice HO_8.out
            subst eo119
            go_wp2_with (first | ((with_reducible refine gate_callee (f := 26) rfl ?_); refine goesL_ (some 81) rfl rfl Try.func26 (by kernel_rfl) rfl #[.slice Ao119 t374.length co119, .int .i64 1] rfl (by (try simp only [List.map_toArray, List.map_cons, List.map_nil]); first | done | rfl | (simp only [List.length_drop, List.length_take]; rfl)) ?_; (with_reducible refine (laws_markPointS.calls kj45 (fun k_ => some k_ = (.slice Ao119 t374.length co119 : Value).ownBlock) (.slice Ao119 t374.length co119) t374 1 t392 t393 w _ ?side1 ?side2 A71.out).mono ?_); (case side1 => repeat (first | (with_reducible first | exact HB.out | apply zR | apply zP | apply zQ | refine zS ?_ GE356.out | refine zS ?_ GE373.out) | exact HB.out)); (case side2 => exact Kd.R_tight rfl HO_8.out); rintro e w120 ⟨rfl, hy0, hb, hkp⟩; refine ⟨_, rfl, ?_⟩; have n0_ := zA (Kd.R_mono (ok' := fun k_ => some k_ ≠ (.slice Ao119 t374.length co119 : Value).ownBlock) (Kd.R_keptB (HO_4.out) hkp (fun k_ hk_ hs_ => (hk_) hs_)) (fun k_ hk_ => hk_.1)); have n1_ := zA (Kd.R_mono (ok' := fun k_ => some k_ ≠ (v379 : Value).ownBlock) (Kd.R_keptB ((Kd.R_apart' HO_6.out (Kd.R_typed HO_8.out) (by decide))) hkp (fun k_ hk_ hs_ => (hk_.2) hs_)) (fun k_ hk_ => hk_.1.1)); have n2_ := zA (Kd.R_reok rfl hy0 (fun k_ e_ => HO_8.out.1 k_ e_)); have n3_ := zA (Kd.R_mono (ok' := fun k_ => some k_ ≠ (v367 : Value).ownBlock) (Kd.R_keptB ((Kd.R_apart' HO_10.out (Kd.R_typed HO_8.out) (by decide))) hkp (fun k_ hk_ hs_ => (hk_.2) hs_)) (fun k_ hk_ => hk_.1.1)); have n4_ := zA (Kd.R_mono (ok' := fun k_ => True) (Kd.R_keptB ((Kd.R_apart' HO_374001.out (Kd.R_typed HO_8.out) (by decide))) hkp (fun k_ hk_ hs_ => (hk_.2) hs_)) (fun k_ hk_ => trivial)); have n5_ := zA (blk_kept (by (with_reducible repeat (first | refine zM ?_ _ | refine zN ?_ | refine zO ?_ _)); exact BK356.out) hkp (fun hs_ => (fun e_ => (Kd.R_ne HO_8.out BK356.out (by decide)) e_) hs_)); have n6_ := zA (blk_kept (by (with_reducible repeat (first | refine zM ?_ _ | refine zN ?_ | refine zO ?_ _)); exact BK373.out) hkp (fun hs_ => (fun e_ => (Kd.R_ne HO_8.out BK373.out (by decide)) e_) hs_)); have n7_ := zA (hb); clear HO_4; clear HO_6; clear HO_8; clear HO_10; clear HO_374001; clear BK356; clear BK373; clear HB; have HO_4 := n0_; have HO_6 := n1_; have HO_8 := n2_; have HO_10 := n3_; have HO_374001 := n4_; have BK356 := n5_; have BK373 := n6_; have HB := n7_; clear n0_ n1_ n2_ n3_ n4_ n5_ n6_ n7_; (try clear hb); (try clear hkp); (try clear hy0); obtain ⟨Ao121, co121, eo121⟩ := Kd.R_slice HO_10.out; subst eo121) | ((with_reducible refine gate_callee (f := 27) rfl ?_); refine goesL_ (some 84) rfl rfl Try.func27 (by kernel_rfl) rfl #[.slice Ao121 t378.length co121, .int .i64 t392] rfl (by (try simp only [List.map_toArray, List.map_cons, List.map_nil]); first | done | rfl | (simp only [List.length_drop, List.length_take]; rfl)) ?_; (with_reducible refine (laws_markIntS.calls kj45 (fun k_ => some k_ = (.slice Ao121 t378.length co121 : Value).ownBlock) (.slice Ao121 t378.length co121) t378 t392 t394 t395 w _ ?side1 ?side2 A72.out).mono ?_); (case side1 => repeat (first | (with_reducible first | exact HB.out | apply zR | apply zP | apply zQ | refine zS ?_ GE356.out | refine zS ?_ GE373.out) | exact HB.out)); (case side2 => exact Kd.R_tight rfl HO_10.out); rintro e w122 ⟨rfl, hy0, hb, hkp⟩; refine ⟨_, rfl, ?_⟩; have n0_ := zA (Kd.R_mono (ok' := fun k_ => some k_ ≠ (.slice Ao119 t374.length co119 : Value).ownBlock) (Kd.R_keptB ((Kd.R_apart' HO_4.out (Kd.R_typed HO_10.out) (by decide))) hkp (fun k_ hk_ hs_ => (hk_.2) hs_)) (fun k_ hk_ => hk_.1.1)); have n1_ := zA (Kd.R_mono (ok' := fun k_ => some k_ ≠ (.slice Ao121 t378.length co121 : Value).ownBlock) (Kd.R_keptB (HO_6.out) hkp (fun k_ hk_ hs_ => (hk_) hs_)) (fun k_ hk_ => hk_.1)); have n2_ := zA (Kd.R_mono (ok' := fun k_ => some k_ ≠ (v363 : Value).ownBlock) (Kd.R_keptB ((Kd.R_apart' HO_8.out (Kd.R_typed HO_10.out) (by decide))) hkp (fun k_ hk_ hs_ => (hk_.2) hs_)) (fun k_ hk_ => hk_.1.1)); have n3_ := zA (Kd.R_reok rfl hy0 (fun k_ e_ => HO_10.out.1 k_ e_)); have n4_ := zA (Kd.R_mono (ok' := fun k_ => True) (Kd.R_keptB ((Kd.R_apart' HO_374001.out (Kd.R_typed HO_10.out) (by decide))) hkp (fun k_ hk_ hs_ => (hk_.2) hs_)) (fun k_ hk_ => trivial)); have n5_ := zA (blk_kept (by (with_reducible repeat (first | refine zM ?_ _ | refine zN ?_ | refine zO ?_ _)); exact BK356.out) hkp (fun hs_ => (fun e_ => (Kd.R_ne HO_10.out BK356.out (by decide)) e_) hs_)); have n6_ := zA (blk_kept (by (with_reducible repeat (first | refine zM ?_ _ | refine zN ?_ | refine zO ?_ _)); exact BK373.out) hkp (fun hs_ => (fun e_ => (Kd.R_ne HO_10.out BK373.out (by decide)) e_) hs_)); have n7_ := zA (hb); clear HO_4; clear HO_6; clear HO_8; clear HO_10; clear HO_374001; clear BK356; clear BK373; clear HB; have HO_4 := n0_; have HO_6 := n1_; have HO_8 := n2_; have HO_10 := n3_; have HO_374001 := n4_; have BK356 := n5_; have BK373 := n6_; have HB := n7_; clear n0_ n1_ n2_ n3_ n4_ n5_ n6_ n7_; (try clear hb); (try clear hkp); (try clear hy0)) | ((with_reducible refine gate_callee (f := 28) rfl ?_); refine goesL_ (some 87) rfl rfl Try.func28 (by kernel_rfl) rfl #[.slice Ao119 t393.length co119, .int .i64 1] rfl (by (try simp only [List.map_toArray, List.map_cons, List.map_nil]); first | done | (rw [show t393.length = t374.length from (zK HO_8.out).1.symm] <;> rfl) | rfl | (simp only [List.length_drop, List.length_take]; rfl)) ?_; (with_reducible refine (laws_heldPointS.calls kj45 _ _ t393 1 t396 _ ?side1 ?side2 A73.out).mono ?_); (case side1 => repeat (first | exact (zK HO_8.out).2.2 | (with_reducible refine zI ?_ _) | (with_reducible refine zH ?_ _) | (with_reducible refine zJ ?_))); (case side2 => rw [show t393.length = t374.length from (zK HO_8.out).1.symm]; exact (zK HO_8.out).2.1); rintro e w' ⟨rfl, ⟨nd, rfl⟩⟩; refine ⟨_, rfl, ?_⟩) | ((with_reducible refine gate_callee (f := 29) rfl ?_); refine goesL_ (some 92) rfl rfl Try.func29 (by kernel_rfl) rfl #[.slice Ao121 t395.length co121, .int .i64 t396] rfl (by (try simp only [List.map_toArray, List.map_cons, List.map_nil]); first | done | (rw [show t395.length = t378.length from (zK HO_10.out).1.symm] <;> rfl) | rfl | (simp only [List.length_drop, List.length_take]; rfl)) ?_; (with_reducible refine (laws_heldIntS.calls kj45 _ _ t395 t396 t397 _ ?side1 ?side2 A79.out).mono ?_); (case side1 => repeat (first | exact (zK HO_10.out).2.2 | (with_reducible refine zI ?_ _) | (with_reducible refine zH ?_ _) | (with_reducible refine zJ ?_))); (case side2 => rw [show t395.length = t378.length from (zK HO_10.out).1.symm]; exact (zK HO_10.out).2.1); rintro e w' ⟨rfl, ⟨nd, rfl⟩⟩; refine ⟨_, rfl, ?_⟩))
            go_ret
            exact ⟨by first | rfl | (simp [errW_none, errW_some] <;> rfl) | (simp [*, errW_none, errW_some] <;> rfl), by repeat (first | (with_reducible first | exact HB.out | apply zR | apply zP | apply zQ | refine zS ?_ GE356.out | refine zS ?_ GE373.out) | exact HB.out)⟩
     ·replace c44 := Bool.eq_false_iff.mpr c44
      subst c44
      have H1 : (some false) = some r := by rw [if_neg (show ¬ (false = true) by decide)] at H; exact H
      clear H
      have H := H1
      clear H1
      obtain rfl := Option.some.inj H
      try go_wp2
      have n0_ := zA (zG HO_4.out)
      have n1_ := zA (zG HO_6.out)
      have n2_ := zA (zG HO_8.out)
      have n3_ := zA (zG HO_10.out)
      have n4_ := zA (zG HO_374001.out)
      have n5_ := zA (zN BK356.out)
      have n6_ := zA (zN BK373.out)
      have n7_ := zA (zQ HB.out)
      clear HO_4
      clear HO_6
      clear HO_8
      clear HO_10
      clear HO_374001
      clear BK356
      clear BK373
      clear HB
      have HO_4 := n0_
      have HO_6 := n1_
      have HO_8 := n2_
      have HO_10 := n3_
      have HO_374001 := n4_
      have BK356 := n5_
      have BK373 := n6_
      have HB := n7_
      clear n0_ n1_ n2_ n3_ n4_ n5_ n6_ n7_
      refine start_ (n := 5) (S := fun w' => w'.cell? ⟨gb373, 0, none⟩ = some (.int .i64 t369) ∧ w'.cell? ⟨gb373, 1, none⟩ = some (.slice Ao24 t370.length co24) ∧ w'.cell? ⟨gb356, 0, none⟩ = some (.int .i64 a0_0) ∧ w'.cell? ⟨gb356, 1, none⟩ = some (.slice A0_1 l0_1.length c0_1)) (ds := []) #[false, false, false, false, false] (by kernel_rfl) rfl rfl ⟨(blk_cell BK373.out 0).trans rfl, (blk_cell BK373.out 1).trans rfl, (blk_cell BK356.out 0).trans rfl, (blk_cell BK356.out 1).trans rfl⟩ (fun hHeld => ?_)
      generalize wc.drew = w123 at HO_4 HO_6 HO_8 HO_10 HO_374001 BK356 BK373 HB hHeld ⊢
      refine take_ (i := 0) (N := some 52) (v := ?_) (a' := ?_) #[true, false, false, false, false] rfl rfl (by kernel_rfl) (fun _ _ _ h => h) (Or.inl ⟨by rfl, ?_⟩) hHeld ?_ ?_
      rotate_left
      ·rintro w' ⟨s0, s1, s2, s3⟩
       go_simp
       with_reducible rfl
      rotate_left
      ·simp only [Act.put, zB, zC, zD, i64_w, i32_w]
       rfl
      refine take_ (i := 1) (N := some 53) (v := ?_) (a' := ?_) #[true, true, false, false, false] rfl rfl (by kernel_rfl) (fun _ _ _ h => h) (Or.inl ⟨by rfl, ?_⟩) hHeld ?_ ?_
      rotate_left
      ·rintro w' ⟨s0, s1, s2, s3⟩
       go_simp
       with_reducible rfl
      rotate_left
      ·simp only [Act.put, zB, zC, zD, i64_w, i32_w]
       rfl
      refine one_ (i := 2) (N := some 54) #[true, true, true, false, false] rfl rfl (by kernel_rfl) (by decide) (fun K hK => ?_)
      refine goes_ Try.func17 (by kernel_rfl) rfl #[.agg #[.int .i64 a0_0, .slice A0_1 l0_1.length c0_1]] (by rfl) rfl rfl (by (try simp only [List.map_toArray, List.map_cons, List.map_nil]); first | done | rfl | (simp only [List.length_drop, List.length_take]; rfl)) ?_
      with_reducible refine (laws_toSketch.calls kj10 a0_0 _ _ l0_1 t383 t384 _ ?side1 ?side2 A42.out).mono ?_
      (case side1 => repeat (first | exact (Kd.C_below HR0_1.out HB.out) | (with_reducible refine zI ?_ _) | (with_reducible refine zH ?_ _) | (with_reducible refine zJ ?_)))
      (case side2 => exact HC0_1.out)
      rintro e w124 ⟨v385, rfl, ho0, hb⟩
      refine ⟨_, rfl, ?_⟩
      have n0_ := zA (zL (by (with_reducible repeat (first | apply zF | apply zE | apply zG)); exact HO_4.out) hb)
      have n1_ := zA (zL (by (with_reducible repeat (first | apply zF | apply zE | apply zG)); exact HO_6.out) hb)
      have n2_ := zA (zL (by (with_reducible repeat (first | apply zF | apply zE | apply zG)); exact HO_8.out) hb)
      have n3_ := zA (zL (by (with_reducible repeat (first | apply zF | apply zE | apply zG)); exact HO_10.out) hb)
      have n4_ := zA (Kd.R_elder' (by (with_reducible repeat (first | apply zF | apply zE | apply zG)); exact HO_374001.out) (Kd.R_base ho0) hb)
      have n5_ := zA (Kd.R_lower (Kd.R_new' ho0 (Kd.R_lt (by (with_reducible repeat (first | apply zF | apply zE | apply zG)); exact HO_374001.out))) (zT (by repeat (first | (with_reducible first | exact HB.out | apply zR | apply zP | apply zQ | refine zS ?_ GE356.out | refine zS ?_ GE373.out) | exact HB.out))))
      have n6_ := zA (zU (g := gb356) (o := .cells #[.int .i64 a0_0, .slice A0_1 l0_1.length c0_1] 39 (0, 0)) (by (with_reducible repeat (first | refine zM ?_ _ | refine zN ?_ | refine zO ?_ _)); exact BK356.out) hb)
      have n7_ := zA (zU (g := gb373) (o := .cells #[.int .i64 t369, .slice Ao24 t370.length co24] 25 (0, 0)) (by (with_reducible repeat (first | refine zM ?_ _ | refine zN ?_ | refine zO ?_ _)); exact BK373.out) hb)
      have n8_ := zA (below_step (by repeat (first | (with_reducible first | exact HB.out | apply zR | apply zP | apply zQ | refine zS ?_ GE356.out | refine zS ?_ GE373.out) | exact HB.out)) hb)
      clear HO_4
      clear HO_6
      clear HO_8
      clear HO_10
      clear HO_374001
      clear BK356
      clear BK373
      clear HB
      have HO_4 := n0_
      have HO_6 := n1_
      have HO_8 := n2_
      have HO_10 := n3_
      have HO_374001 := n4_
      have HO386 := n5_
      have BK356 := n6_
      have BK373 := n7_
      have HB := n8_
      clear n0_ n1_ n2_ n3_ n4_ n5_ n6_ n7_ n8_
      (try clear hb)
      (try clear hb2)
      (try clear hk)
      (try clear hi)
      (try clear ho0)
      obtain ⟨Ao125, co125, eo125⟩ := Kd.R_slice HO386.out
      (first | subst eo125 | (injection eo125 with f1_ f2_ f3_; have f4_ := f1_.symm; have f5_ := f3_.symm; clear f1_ f2_ f3_; subst f4_; subst f5_))
      refine hK.out _ _ ⟨(blk_cell BK373.out 0).trans rfl, (blk_cell BK373.out 1).trans rfl, (blk_cell BK356.out 0).trans rfl, (blk_cell BK356.out 1).trans rfl⟩ (fun hHeld => ?_)
      clear hK K
      refine norm_ (a' := ?_) ?_ ?_
      rotate_left
      ·show Act.put _ (some 54) _ = _
       simp only [Act.put, zB, zC, zD, i64_w, i32_w]
       rfl
      refine one_ (i := 3) (N := some 55) #[true, true, true, true, false] rfl rfl (by kernel_rfl) (by decide) (fun K hK => ?_)
      refine goes_ Try.func19 (by kernel_rfl) rfl #[.agg #[.int .i64 t369, .slice Ao24 t370.length co24], .agg #[.int .i64 t383, .slice Ao125 t384.length co125]] (by rfl) rfl rfl (by (try simp only [List.map_toArray, List.map_cons, List.map_nil]); first | done | rfl | (simp only [List.length_drop, List.length_take]; rfl)) ?_
      with_reducible refine (laws_eqSketch.calls kj10 t369 _ _ t370 t383 _ _ t384 false _ ?side1 ?side2 ?side3 ?side4 A43.out).mono ?_
      (case side1 => repeat (first | exact (zK HO_374001.out).2.2 | (with_reducible refine zI ?_ _) | (with_reducible refine zH ?_ _) | (with_reducible refine zJ ?_)))
      (case side2 => exact (zK HO_374001.out).2.1)
      (case side3 => repeat (first | exact (zK HO386.out).2.2 | (with_reducible refine zI ?_ _) | (with_reducible refine zH ?_ _) | (with_reducible refine zJ ?_)))
      (case side4 => exact (zK HO386.out).2.1)
      rintro e w126 ⟨rfl, hb⟩
      refine ⟨_, rfl, ?_⟩
      have n0_ := zA (zL (by (with_reducible repeat (first | apply zF | apply zE | apply zG)); exact HO_4.out) hb)
      have n1_ := zA (zL (by (with_reducible repeat (first | apply zF | apply zE | apply zG)); exact HO_6.out) hb)
      have n2_ := zA (zL (by (with_reducible repeat (first | apply zF | apply zE | apply zG)); exact HO_8.out) hb)
      have n3_ := zA (zL (by (with_reducible repeat (first | apply zF | apply zE | apply zG)); exact HO_10.out) hb)
      have n4_ := zA (zL (by (with_reducible repeat (first | apply zF | apply zE | apply zG)); exact HO_374001.out) hb)
      have n5_ := zA (zL (by (with_reducible repeat (first | apply zF | apply zE | apply zG)); exact HO386.out) hb)
      have n6_ := zA (zU (g := gb356) (o := .cells #[.int .i64 a0_0, .slice A0_1 l0_1.length c0_1] 39 (0, 0)) (by (with_reducible repeat (first | refine zM ?_ _ | refine zN ?_ | refine zO ?_ _)); exact BK356.out) hb)
      have n7_ := zA (zU (g := gb373) (o := .cells #[.int .i64 t369, .slice Ao24 t370.length co24] 25 (0, 0)) (by (with_reducible repeat (first | refine zM ?_ _ | refine zN ?_ | refine zO ?_ _)); exact BK373.out) hb)
      have n8_ := zA (below_step (by repeat (first | (with_reducible first | exact HB.out | apply zR | apply zP | apply zQ | refine zS ?_ GE356.out | refine zS ?_ GE373.out) | exact HB.out)) hb)
      clear HO_4
      clear HO_6
      clear HO_8
      clear HO_10
      clear HO_374001
      clear HO386
      clear BK356
      clear BK373
      clear HB
      have HO_4 := n0_
      have HO_6 := n1_
      have HO_8 := n2_
      have HO_10 := n3_
      have HO_374001 := n4_
      have HO386 := n5_
      have BK356 := n6_
      have BK373 := n7_
      have HB := n8_
      clear n0_ n1_ n2_ n3_ n4_ n5_ n6_ n7_ n8_
      (try clear hb)
      (try clear hb2)
      (try clear hk)
      (try clear hi)
      refine hK.out _ _ ⟨(blk_cell BK373.out 0).trans rfl, (blk_cell BK373.out 1).trans rfl, (blk_cell BK356.out 0).trans rfl, (blk_cell BK356.out 1).trans rfl⟩ (fun hHeld => ?_)
      clear hK K
      refine norm_ (a' := ?_) ?_ ?_
      rotate_left
      ·show Act.put _ (some 55) _ = _
       simp only [Act.put, zB, zC, zD, i64_w, i32_w]
       rfl
      refine pure_ (i := 4) (N := some 56) (v := ?_) (a' := ?_) #[true, true, true, true, true] rfl rfl (by kernel_rfl) (fun _ _ _ h => h) (Or.inl ⟨by rfl, ?_⟩) ?_ ?_
      rotate_left
      ·intro w'
       go_simp
       with_reducible rfl
      rotate_left
      ·simp only [Act.put, zB, zC, zD, i64_w, i32_w]
       rfl
      refine done_ (by kernel_rfl) ?_
      try go_wp2
      go_ret
      exact ⟨by first | rfl | (simp [errW_none, errW_some] <;> rfl) | (simp [*, errW_none, errW_some] <;> rfl), by repeat (first | (with_reducible first | exact HB.out | apply zR | apply zP | apply zQ | refine zS ?_ GE356.out | refine zS ?_ GE373.out) | exact HB.out)⟩

end Go.Proofs.Ytnbkdfnlggmopaa.PFnExactSketchSolve
