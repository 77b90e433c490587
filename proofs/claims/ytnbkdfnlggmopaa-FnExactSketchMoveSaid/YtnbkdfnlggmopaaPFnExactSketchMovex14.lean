/- Written for this claim by a program of this session: the functions that the law reaches, each with its contract. -/
import Derived.Test.YtnbkdfnlggmopaaPFnExactSketchMovex0
import Derived.Test.YtnbkdfnlggmopaaPFnExactSketchMovex1
import Derived.Test.YtnbkdfnlggmopaaPFnExactSketchMovex6
import Derived.Test.YtnbkdfnlggmopaaPFnExactSketchMovex12
import Derived.Test.YtnbkdfnlggmopaaPFnExactSketchMovex13
namespace Go.Proofs.Ytnbkdfnlggmopaa.PFnExactSketchMove
open Go.RowKit Go.Proofs.YtnbkdfnlggmopaaW.PrintWords Go.Proofs.YtnbkdfnlggmopaaW.PrintLast Go.Proofs.YtnbkdfnlggmopaaW.PrintMore
open Go.Proofs.YtnbkdfnlggmopaaW.PrintWords.Aside0 renaming mk → zA
open List renaming setIfInBounds_toArray → zB, set_cons_zero → zC, set_cons_succ → zD
open Go.Proofs.YtnbkdfnlggmopaaW.PrintWords.Kd renaming R_drewN → zE, R_alloc → zF, R_drew → zG, C_drewN → zH, C_alloc → zI, C_drew → zJ, R_reads' → zK, R_below → zL
open Go.Proofs.YtnbkdfnlggmopaaW.PrintWords renaming blk_drewN → zM, blk_drew → zN, blk_alloc → zO, pw_below_drewN → zP, below_drew1 → zQ, below_alloc → zR, below_set → zS, below_size → zT, blk_below → zU
attribute [local go_sem] i64_w max2_int min2_int max_two min_two max_three min_three max_four min_four
set_option linter.unusedVariables false
set_option linter.unusedSimpArgs false

mutual
def laws_FnExactSketchMove.j0 : Nat → Int → List (S48) → Int → List Int → List (S48) → Int → List Int → Bool → Int → List (S85) → Int → Int → Int → List (S35) → Option (Bool)
 | 0, _, _, _, _, _, _, _, _, _, _, _, _, _, _ => none
 | k + 1, x1, x8, x9, x10, x12, x13, x14, x61, x400000, x400001, x401000, x401001, x420000, x420001 => if x61 = true then (some false) else ((laws_toSketch.f k x400000 x400001).bind fun bt431 => ((laws_eqSketch.f k x420000 x420001 bt431.1 bt431.2).bind fun t435 => (if t435 = true then ((laws_markSketch.f k x420000 x420001 1).bind fun bt436 => (if bt436.1 < 0 then (laws_FnExactSketchMove.j1 k x1 x8 x9 x10 x12 x14 true x400000 x400001 x401000 x401001) else ((laws_eqPointS.f k x12 x8).bind fun t438 => (if t438 = true then (if x13 = x9 then ((laws_eqIntS.f k x14 x10).bind fun t439 => (laws_FnExactSketchMove.j1 k x1 x8 x9 x10 x12 x14 (!t439) x400000 x400001 x401000 x401001)) else (laws_FnExactSketchMove.j1 k x1 x8 x9 x10 x12 x14 true x400000 x400001 x401000 x401001)) else (laws_FnExactSketchMove.j1 k x1 x8 x9 x10 x12 x14 true x400000 x400001 x401000 x401001))))) else (some false))))
def laws_FnExactSketchMove.j1 : Nat → Int → List (S48) → Int → List Int → List (S48) → List Int → Bool → Int → List (S85) → Int → Int → Option (Bool)
 | 0, _, _, _, _, _, _, _, _, _, _, _ => none
 | k + 1, x1, x8, x9, x10, x12, x14, x88, x400000, x400001, x401000, x401001 => if x88 = true then (some false) else ((laws_markPointS.f k x12 1).bind fun bt440 => ((laws_markIntS.f k x14 bt440.1).bind fun bt442 => ((laws_heldPointS.f k bt440.2 1).bind fun t444 => (if t444 < 0 then (some false) else ((laws_heldIntS.f k bt442.2 t444).bind fun t445 => (if t445 < 0 then (some false) else (if t445 = bt442.1 then ((laws_toSketch.f k x400000 x400001).bind fun bt446 => ((laws_toPoint.f x401000 x401001).bind fun bt450 => ((impl_SketchMove.f k bt446.1 bt446.2 x1 bt450.1 bt450.2).bind fun bt452 => ((laws_eqPointS.f k bt452.1 x8).bind fun t459 => (if t459 = true then (if bt452.2.1 = x9 then ((laws_eqIntS.f k bt452.2.2 x10).bind fun t460 => (laws_FnExactSketchMove.j2 k bt440.2 bt442.2 bt442.1 (!t460))) else (laws_FnExactSketchMove.j2 k bt440.2 bt442.2 bt442.1 true)) else (laws_FnExactSketchMove.j2 k bt440.2 bt442.2 bt442.1 true)))))) else (some false))))))))
def laws_FnExactSketchMove.j2 : Nat → List (S48) → List Int → Int → Bool → Option (Bool)
 | 0, _, _, _, _ => none
 | k + 1, x12, x14, x16, x132 => if x132 = true then (some false) else ((laws_heldPointS.f k x12 1).bind fun t461 => (if t461 < 0 then (some false) else ((laws_heldIntS.f k x14 t461).bind fun t462 => (if t462 < 0 then (some false) else (if t462 = x16 then (some true) else (some false))))))
end
def laws_FnExactSketchMove.f (k : Nat) (a0_0 : Int) (l0_1 : List (S85)) (a1 : Int) (a2_0 : Int) (a2_1 : Int) : Option (Bool) := (laws_szSketch.f a0_0 l0_1 1048576).bind fun t401 => (if t401 < 0 then (some true) else ((laws_toSketch.f k a0_0 l0_1).bind fun bt402 => ((laws_toPoint.f a2_0 a2_1).bind fun bt406 => ((spec_SketchMove.f k bt402.1 bt402.2 a1 bt406.1 bt406.2).bind fun bt408 => ((laws_toSketch.f k a0_0 l0_1).bind fun bt415 => ((laws_toPoint.f a2_0 a2_1).bind fun bt420 => ((impl_SketchMove.f k bt415.1 bt415.2 a1 bt420.1 bt420.2).bind fun bt422 => ((laws_eqPointS.f k bt422.1 bt408.1).bind fun t429 => (if t429 = true then (if bt422.2.1 = bt408.2.1 then ((laws_eqIntS.f k bt422.2.2 bt408.2.2).bind fun t430 => (laws_FnExactSketchMove.j0 k a1 bt408.1 bt408.2.1 bt408.2.2 bt422.1 bt422.2.1 bt422.2.2 (!t430) a0_0 l0_1 a2_0 a2_1 bt415.1 bt415.2)) else (laws_FnExactSketchMove.j0 k a1 bt408.1 bt408.2.1 bt408.2.2 bt422.1 bt422.2.1 bt422.2.2 true a0_0 l0_1 a2_0 a2_1 bt415.1 bt415.2)) else (laws_FnExactSketchMove.j0 k a1 bt408.1 bt408.2.1 bt408.2.2 bt422.1 bt422.2.1 bt422.2.2 true a0_0 l0_1 a2_0 a2_1 bt415.1 bt415.2))))))))))
theorem laws_FnExactSketchMove.mono_l : ∀ k, (∀ y0 y1 y2 y3 y4 y5 y6 y7 y8 y9 y10 y11 y12 y13, LeO (laws_FnExactSketchMove.j0 k y0 y1 y2 y3 y4 y5 y6 y7 y8 y9 y10 y11 y12 y13) (laws_FnExactSketchMove.j0 (k + 1) y0 y1 y2 y3 y4 y5 y6 y7 y8 y9 y10 y11 y12 y13)) ∧ (∀ y0 y1 y2 y3 y4 y5 y6 y7 y8 y9 y10, LeO (laws_FnExactSketchMove.j1 k y0 y1 y2 y3 y4 y5 y6 y7 y8 y9 y10) (laws_FnExactSketchMove.j1 (k + 1) y0 y1 y2 y3 y4 y5 y6 y7 y8 y9 y10)) ∧ (∀ y0 y1 y2 y3, LeO (laws_FnExactSketchMove.j2 k y0 y1 y2 y3) (laws_FnExactSketchMove.j2 (k + 1) y0 y1 y2 y3))
 | 0 => ⟨fun _ _ _ _ _ _ _ _ _ _ _ _ _ _ r h => by simp [laws_FnExactSketchMove.j0] at h, fun _ _ _ _ _ _ _ _ _ _ _ r h => by simp [laws_FnExactSketchMove.j1] at h, fun _ _ _ _ r h => by simp [laws_FnExactSketchMove.j2] at h⟩
 | k + 1 => by
  obtain ⟨ih0, ih1, ih2⟩ := laws_FnExactSketchMove.mono_l k
  refine ⟨?_, ?_, ?_⟩
  ·intro y0 y1 y2 y3 y4 y5 y6 y7 y8 y9 y10 y11 y12 y13
   unfold laws_FnExactSketchMove.j0
   repeat' first
   | (with_reducible exact ih0 _ _ _ _ _ _ _ _ _ _ _ _ _ _)
   | (with_reducible exact ih1 _ _ _ _ _ _ _ _ _ _ _)
   | (with_reducible exact ih2 _ _ _ _)
   | (with_reducible exact impl_SketchMove.mono _ _ _ _ _ _)
   | (with_reducible exact laws_eqIntS.mono _ _ _)
   | (with_reducible exact laws_eqPointS.mono _ _ _)
   | (with_reducible exact laws_eqSketch.mono _ _ _ _ _)
   | (with_reducible exact laws_heldIntS.mono _ _ _)
   | (with_reducible exact laws_heldPointS.mono _ _ _)
   | (with_reducible exact laws_markIntS.mono _ _ _)
   | (with_reducible exact laws_markPointS.mono _ _ _)
   | (with_reducible exact laws_markSketch.mono _ _ _ _)
   | (with_reducible exact laws_toSketch.mono _ _ _)
   | (with_reducible exact spec_SketchMove.mono _ _ _ _ _ _)
   | (with_reducible exact LeO.refl _)
   | (with_reducible exact LeO.none _)
   | (with_reducible refine LeO.ite ?_ ?_)
   | (with_reducible refine LeO.bind ?_ (fun _ => ?_))
   | exact ih0 _ _ _ _ _ _ _ _ _ _ _ _ _ _
   | exact ih1 _ _ _ _ _ _ _ _ _ _ _
   | exact ih2 _ _ _ _
   | exact impl_SketchMove.mono _ _ _ _ _ _
   | exact laws_eqIntS.mono _ _ _
   | exact laws_eqPointS.mono _ _ _
   | exact laws_eqSketch.mono _ _ _ _ _
   | exact laws_heldIntS.mono _ _ _
   | exact laws_heldPointS.mono _ _ _
   | exact laws_markIntS.mono _ _ _
   | exact laws_markPointS.mono _ _ _
   | exact laws_markSketch.mono _ _ _ _
   | exact laws_toSketch.mono _ _ _
   | exact spec_SketchMove.mono _ _ _ _ _ _
   | exact LeO.none _
   | refine LeO.ite ?_ ?_
   | refine LeO.bind ?_ (fun _ => ?_)
  ·intro y0 y1 y2 y3 y4 y5 y6 y7 y8 y9 y10
   unfold laws_FnExactSketchMove.j1
   repeat' first
   | (with_reducible exact ih0 _ _ _ _ _ _ _ _ _ _ _ _ _ _)
   | (with_reducible exact ih1 _ _ _ _ _ _ _ _ _ _ _)
   | (with_reducible exact ih2 _ _ _ _)
   | (with_reducible exact impl_SketchMove.mono _ _ _ _ _ _)
   | (with_reducible exact laws_eqIntS.mono _ _ _)
   | (with_reducible exact laws_eqPointS.mono _ _ _)
   | (with_reducible exact laws_eqSketch.mono _ _ _ _ _)
   | (with_reducible exact laws_heldIntS.mono _ _ _)
   | (with_reducible exact laws_heldPointS.mono _ _ _)
   | (with_reducible exact laws_markIntS.mono _ _ _)
   | (with_reducible exact laws_markPointS.mono _ _ _)
   | (with_reducible exact laws_markSketch.mono _ _ _ _)
   | (with_reducible exact laws_toSketch.mono _ _ _)
   | (with_reducible exact spec_SketchMove.mono _ _ _ _ _ _)
   | (with_reducible exact LeO.refl _)
   | (with_reducible exact LeO.none _)
   | (with_reducible refine LeO.ite ?_ ?_)
   | (with_reducible refine LeO.bind ?_ (fun _ => ?_))
   | exact ih0 _ _ _ _ _ _ _ _ _ _ _ _ _ _
   | exact ih1 _ _ _ _ _ _ _ _ _ _ _
   | exact ih2 _ _ _ _
   | exact impl_SketchMove.mono _ _ _ _ _ _
   | exact laws_eqIntS.mono _ _ _
   | exact laws_eqPointS.mono _ _ _
   | exact laws_eqSketch.mono _ _ _ _ _
   | exact laws_heldIntS.mono _ _ _
   | exact laws_heldPointS.mono _ _ _
   | exact laws_markIntS.mono _ _ _
   | exact laws_markPointS.mono _ _ _
   | exact laws_markSketch.mono _ _ _ _
   | exact laws_toSketch.mono _ _ _
   | exact spec_SketchMove.mono _ _ _ _ _ _
   | exact LeO.none _
   | refine LeO.ite ?_ ?_
   | refine LeO.bind ?_ (fun _ => ?_)
  ·intro y0 y1 y2 y3
   unfold laws_FnExactSketchMove.j2
   repeat' first
   | (with_reducible exact ih0 _ _ _ _ _ _ _ _ _ _ _ _ _ _)
   | (with_reducible exact ih1 _ _ _ _ _ _ _ _ _ _ _)
   | (with_reducible exact ih2 _ _ _ _)
   | (with_reducible exact impl_SketchMove.mono _ _ _ _ _ _)
   | (with_reducible exact laws_eqIntS.mono _ _ _)
   | (with_reducible exact laws_eqPointS.mono _ _ _)
   | (with_reducible exact laws_eqSketch.mono _ _ _ _ _)
   | (with_reducible exact laws_heldIntS.mono _ _ _)
   | (with_reducible exact laws_heldPointS.mono _ _ _)
   | (with_reducible exact laws_markIntS.mono _ _ _)
   | (with_reducible exact laws_markPointS.mono _ _ _)
   | (with_reducible exact laws_markSketch.mono _ _ _ _)
   | (with_reducible exact laws_toSketch.mono _ _ _)
   | (with_reducible exact spec_SketchMove.mono _ _ _ _ _ _)
   | (with_reducible exact LeO.refl _)
   | (with_reducible exact LeO.none _)
   | (with_reducible refine LeO.ite ?_ ?_)
   | (with_reducible refine LeO.bind ?_ (fun _ => ?_))
   | exact ih0 _ _ _ _ _ _ _ _ _ _ _ _ _ _
   | exact ih1 _ _ _ _ _ _ _ _ _ _ _
   | exact ih2 _ _ _ _
   | exact impl_SketchMove.mono _ _ _ _ _ _
   | exact laws_eqIntS.mono _ _ _
   | exact laws_eqPointS.mono _ _ _
   | exact laws_eqSketch.mono _ _ _ _ _
   | exact laws_heldIntS.mono _ _ _
   | exact laws_heldPointS.mono _ _ _
   | exact laws_markIntS.mono _ _ _
   | exact laws_markPointS.mono _ _ _
   | exact laws_markSketch.mono _ _ _ _
   | exact laws_toSketch.mono _ _ _
   | exact spec_SketchMove.mono _ _ _ _ _ _
   | exact LeO.none _
   | refine LeO.ite ?_ ?_
   | refine LeO.bind ?_ (fun _ => ?_)
theorem laws_FnExactSketchMove.mono : ∀ a0 a1 a2 a3 a4 k, LeO (laws_FnExactSketchMove.f k a0 a1 a2 a3 a4) (laws_FnExactSketchMove.f (k + 1) a0 a1 a2 a3 a4) := by
 intro a0 a1 a2 a3 a4 k
 obtain ⟨ih0, ih1, ih2⟩ := laws_FnExactSketchMove.mono_l k
 unfold laws_FnExactSketchMove.f
 repeat' first
   | (with_reducible exact ih0 _ _ _ _ _ _ _ _ _ _ _ _ _ _)
   | (with_reducible exact ih1 _ _ _ _ _ _ _ _ _ _ _)
   | (with_reducible exact ih2 _ _ _ _)
   | (with_reducible exact impl_SketchMove.mono _ _ _ _ _ _)
   | (with_reducible exact laws_eqIntS.mono _ _ _)
   | (with_reducible exact laws_eqPointS.mono _ _ _)
   | (with_reducible exact laws_eqSketch.mono _ _ _ _ _)
   | (with_reducible exact laws_heldIntS.mono _ _ _)
   | (with_reducible exact laws_heldPointS.mono _ _ _)
   | (with_reducible exact laws_markIntS.mono _ _ _)
   | (with_reducible exact laws_markPointS.mono _ _ _)
   | (with_reducible exact laws_markSketch.mono _ _ _ _)
   | (with_reducible exact laws_toSketch.mono _ _ _)
   | (with_reducible exact spec_SketchMove.mono _ _ _ _ _ _)
   | (with_reducible exact LeO.refl _)
   | (with_reducible exact LeO.none _)
   | (with_reducible refine LeO.ite ?_ ?_)
   | (with_reducible refine LeO.bind ?_ (fun _ => ?_))
   | exact ih0 _ _ _ _ _ _ _ _ _ _ _ _ _ _
   | exact ih1 _ _ _ _ _ _ _ _ _ _ _
   | exact ih2 _ _ _ _
   | exact impl_SketchMove.mono _ _ _ _ _ _
   | exact laws_eqIntS.mono _ _ _
   | exact laws_eqPointS.mono _ _ _
   | exact laws_eqSketch.mono _ _ _ _ _
   | exact laws_heldIntS.mono _ _ _
   | exact laws_heldPointS.mono _ _ _
   | exact laws_markIntS.mono _ _ _
   | exact laws_markPointS.mono _ _ _
   | exact laws_markSketch.mono _ _ _ _
   | exact laws_toSketch.mono _ _ _
   | exact spec_SketchMove.mono _ _ _ _ _ _
   | exact LeO.none _
   | refine LeO.ite ?_ ?_
   | refine LeO.bind ?_ (fun _ => ?_)
def laws_FnExactSketchMove.T5 : Bool × List (List Nat × List Nat) := (true, [([], []), ([0], [0]), ([], []), ([], []), ([3, 1], [3]), ([1, 2, 4, 4], [1, 2, 4]), ([5], [5]), ([6], [6]), ([6], [6]), ([6], [6]), ([7, 5, 0, 1, 2, 3, 4, 5, 6, 7], [7]), ([8, 10, 0, 1, 2, 3, 4, 5, 6, 7, 8, 10], [8]), ([9, 11, 0, 1, 2, 3, 4, 5, 6, 7, 8, 9, 10, 11], [9])])
def laws_FnExactSketchMove.B5 : List Nat := [0, 1, 0, 0, 11, 31, 63, 127, 127, 127, 255, 1535, 4095]
theorem laws_FnExactSketchMove.tab5 : rtab .any (opsOf Try.f7 5) = laws_FnExactSketchMove.T5 := by kernel_rfl
theorem laws_FnExactSketchMove.bits5 : waitsOk laws_FnExactSketchMove.T5.2 laws_FnExactSketchMove.B5 = true := by kernel_rfl
def laws_FnExactSketchMove.T7 : Bool × List (List Nat × List Nat) := (true, [([], []), ([], []), ([], []), ([2], [2]), ([0, 1, 3, 3], [0, 1, 3]), ([4], [4]), ([5], [5]), ([5], [5]), ([5], [5]), ([6, 4, 0, 1, 2, 3, 4, 5, 6], [6]), ([7, 9, 0, 1, 2, 3, 4, 5, 6, 7, 9], [7]), ([8, 10, 0, 1, 2, 3, 4, 5, 6, 7, 8, 9, 10], [8])])
def laws_FnExactSketchMove.B7 : List Nat := [0, 0, 0, 4, 15, 31, 63, 63, 63, 127, 767, 2047]
theorem laws_FnExactSketchMove.tab7 : rtab .any (opsOf Try.f7 7) = laws_FnExactSketchMove.T7 := by kernel_rfl
theorem laws_FnExactSketchMove.bits7 : waitsOk laws_FnExactSketchMove.T7.2 laws_FnExactSketchMove.B7 = true := by kernel_rfl
def laws_FnExactSketchMove.T28 : Bool × List (List Nat × List Nat) := (true, [([], []), ([0], [0]), ([], []), ([], []), ([3, 1], [3]), ([1, 2, 4, 4], [1, 2, 4]), ([5], [5]), ([6], [6]), ([6], [6]), ([6], [6]), ([7, 5, 0, 1, 2, 3, 4, 5, 6, 7], [7]), ([8, 10, 0, 1, 2, 3, 4, 5, 6, 7, 8, 10], [8]), ([9, 11, 0, 1, 2, 3, 4, 5, 6, 7, 8, 9, 10, 11], [9])])
def laws_FnExactSketchMove.B28 : List Nat := [0, 1, 0, 0, 11, 31, 63, 127, 127, 127, 255, 1535, 4095]
theorem laws_FnExactSketchMove.tab28 : rtab .any (opsOf Try.f7 28) = laws_FnExactSketchMove.T28 := by kernel_rfl
theorem laws_FnExactSketchMove.bits28 : waitsOk laws_FnExactSketchMove.T28.2 laws_FnExactSketchMove.B28 = true := by kernel_rfl
set_option maxHeartbeats 8000000 in
set_option maxRecDepth 100000 in
theorem laws_FnExactSketchMove.calls (k : Nat) (a0_0 : Int) (A0_1 : Option Addr) (c0_1 : Nat) (l0_1 : List (S85)) (a1 : Int) (a2_0 : Int) (a2_1 : Int) (r : Bool) (w : World) (hr0_1 : Kd.C k85 w A0_1 l0_1.length l0_1) (hc0_1 : l0_1.length ≤ c0_1) (h : laws_FnExactSketchMove.f k a0_0 l0_1 a1 a2_0 a2_1 = some r) :
  Calls Try.prog 7 #[.agg #[.int .i64 a0_0, .slice A0_1 l0_1.length c0_1], .int .i64 a1, .agg #[.int .i64 a2_0, .int .i64 a2_1]] w fun e w' => e = .returned (.bool r) ∧ Below w.heap.size w w' := by
 have hu39 := Try.underlying39
 have hu53 := Try.underlying53
 have hu25 := Try.underlying25
 have HR0_1 := zA hr0_1
 have HC0_1 := zA hc0_1
 clear hr0_1 hc0_1
 have HB := zA (Below.refl w.heap.size w)
 have H : ((laws_szSketch.f a0_0 l0_1 1048576).bind fun t401 => (if t401 < 0 then (some true) else ((laws_toSketch.f k a0_0 l0_1).bind fun bt402 => ((laws_toPoint.f a2_0 a2_1).bind fun bt406 => ((spec_SketchMove.f k bt402.1 bt402.2 a1 bt406.1 bt406.2).bind fun bt408 => ((laws_toSketch.f k a0_0 l0_1).bind fun bt415 => ((laws_toPoint.f a2_0 a2_1).bind fun bt420 => ((impl_SketchMove.f k bt415.1 bt415.2 a1 bt420.1 bt420.2).bind fun bt422 => ((laws_eqPointS.f k bt422.1 bt408.1).bind fun t429 => (if t429 = true then (if bt422.2.1 = bt408.2.1 then ((laws_eqIntS.f k bt422.2.2 bt408.2.2).bind fun t430 => (laws_FnExactSketchMove.j0 k a1 bt408.1 bt408.2.1 bt408.2.2 bt422.1 bt422.2.1 bt422.2.2 (!t430) a0_0 l0_1 a2_0 a2_1 bt415.1 bt415.2)) else (laws_FnExactSketchMove.j0 k a1 bt408.1 bt408.2.1 bt408.2.2 bt422.1 bt422.2.1 bt422.2.2 true a0_0 l0_1 a2_0 a2_1 bt415.1 bt415.2)) else (laws_FnExactSketchMove.j0 k a1 bt408.1 bt408.2.1 bt408.2.2 bt422.1 bt422.2.1 bt422.2.2 true a0_0 l0_1 a2_0 a2_1 bt415.1 bt415.2))))))))))) = some r := h
 clear h
 replace H := Option.bind_eq_some_iff.mp H
 obtain ⟨t401, A40, H⟩ := H
 replace H : (if t401 < 0 then (some true) else ((laws_toSketch.f k a0_0 l0_1).bind fun bt402 => ((laws_toPoint.f a2_0 a2_1).bind fun bt406 => ((spec_SketchMove.f k bt402.1 bt402.2 a1 bt406.1 bt406.2).bind fun bt408 => ((laws_toSketch.f k a0_0 l0_1).bind fun bt415 => ((laws_toPoint.f a2_0 a2_1).bind fun bt420 => ((impl_SketchMove.f k bt415.1 bt415.2 a1 bt420.1 bt420.2).bind fun bt422 => ((laws_eqPointS.f k bt422.1 bt408.1).bind fun t429 => (if t429 = true then (if bt422.2.1 = bt408.2.1 then ((laws_eqIntS.f k bt422.2.2 bt408.2.2).bind fun t430 => (laws_FnExactSketchMove.j0 k a1 bt408.1 bt408.2.1 bt408.2.2 bt422.1 bt422.2.1 bt422.2.2 (!t430) a0_0 l0_1 a2_0 a2_1 bt415.1 bt415.2)) else (laws_FnExactSketchMove.j0 k a1 bt408.1 bt408.2.1 bt408.2.2 bt422.1 bt422.2.1 bt422.2.2 true a0_0 l0_1 a2_0 a2_1 bt415.1 bt415.2)) else (laws_FnExactSketchMove.j0 k a1 bt408.1 bt408.2.1 bt408.2.2 bt422.1 bt422.2.1 bt422.2.2 true a0_0 l0_1 a2_0 a2_1 bt415.1 bt415.2)))))))))) = some r := H
 have A4 := zA A40
 clear A40
 by_cases c5 : t401 < 0
 ·rw [if_pos c5] at H
  have c5b0 : decide (t401 < 0) = true := decide_eq_true c5
  clear c5
  obtain rfl := Option.some.inj H
  go_enter Try.func7, Try.ntmps7
  go_wp2_with (first | ((with_reducible refine gate_dst (N := 3) rfl ?_); refine box_event ?hg (N := 3) ?hd (cs := #[.int .i64 a0_0, .slice A0_1 l0_1.length c0_1]) (t := 39) ?hr ?_; (case hd => rfl); (case hg => rfl); (case hr => first | (go_simp; done) | (go_simp; rfl)); intro gb399 hg w6 hbox hb; have n0_ := zA (below_step (bB_ HB) hb); have n1_ := zA (hbox); have n2_ := zA ((by rw [hg]; exact (zT (bB_ HB)) : w.heap.size ≤ gb399)); have n3_ := zA ((by rw [hg]; exact (zT (bB_ HB)) : w.heap.size ≤ gb399)); clear HB; have HB := n0_; have BK399 := n1_; have GW399 := n2_; have GE399 := n3_; clear n0_ n1_ n2_ n3_; clear hb hbox hg) | ((with_reducible refine gate_dst (N := 5) rfl ?_); refine box_event ?hg (N := 5) ?hd (cs := #[.int .i64 a2_0, .int .i64 a2_1]) (t := 53) ?hr ?_; (case hd => rfl); (case hg => rfl); (case hr => first | (go_simp; done) | (go_simp; rfl)); intro gb400 hg w7 hbox hb; have n0_ := zA (zU (g := gb399) (o := .cells #[.int .i64 a0_0, .slice A0_1 l0_1.length c0_1] 39 (0, 0)) (bA_ BK399) hb); have n1_ := zA (below_step (bB_ HB) hb); have n2_ := zA (hbox); have n3_ := zA ((by rw [hg]; exact (zT (bB_ HB)) : w.heap.size ≤ gb400)); have n4_ := zA ((by rw [hg]; exact (zT (bB_ HB)) : w.heap.size ≤ gb400)); have n5_ := zA ((by rw [hg]; exact Nat.ne_of_lt (blk_lt (g := gb399) (o := .cells #[.int .i64 a0_0, .slice A0_1 l0_1.length c0_1] 39 (0, 0)) (bA_ BK399)) : gb399 ≠ gb400)); have n6_ := zA ((by rw [hg]; exact Nat.ne_of_gt (blk_lt (g := gb399) (o := .cells #[.int .i64 a0_0, .slice A0_1 l0_1.length c0_1] 39 (0, 0)) (bA_ BK399)) : gb400 ≠ gb399)); clear BK399; clear HB; have BK399 := n0_; have HB := n1_; have BK400 := n2_; have GW400 := n3_; have GE400 := n4_; have NB399_400 := n5_; have NB400_399 := n6_; clear n0_ n1_ n2_ n3_ n4_ n5_ n6_; clear hb hbox hg; have hnb8 := NB399_400.out; have hnc8 := NB400_399.out; have hcz9_0 : w7.cell? ⟨gb399, 0, none⟩ = some (.int .i64 a0_0) := (blk_cell BK399.out 0).trans rfl; have hcz9_1 : w7.cell? ⟨gb399, 1, none⟩ = some (.slice A0_1 l0_1.length c0_1) := (blk_cell BK399.out 1).trans rfl; have hfz9_0 := blk_frozen BK399.out 0; have hfz9_1 := blk_frozen BK399.out 1) | ((with_reducible refine gate_callee (f := 15) rfl ?_); refine goesL_ (some 23) rfl rfl Try.func15 (by kernel_rfl) rfl #[.agg #[.int .i64 a0_0, .slice A0_1 l0_1.length c0_1], .int .i64 1048576] rfl (by (try simp only [List.map_toArray, List.map_cons, List.map_nil]); first | done | rfl | (simp only [List.length_drop, List.length_take]; rfl)) ?_; (with_reducible refine (laws_szSketch.calls a0_0 _ _ l0_1 1048576 t401 _ ?side1 ?side2 A4.out).mono ?_); (case side1 => repeat (first | exact (Kd.C_below HR0_1.out HB.out) | (with_reducible refine zI ?_ _) | (with_reducible refine zH ?_ _) | (with_reducible refine zJ ?_))); (case side2 => exact HC0_1.out); rintro e w10 ⟨rfl, hb⟩; refine ⟨_, rfl, ?_⟩; have n0_ := zA (zU (g := gb399) (o := .cells #[.int .i64 a0_0, .slice A0_1 l0_1.length c0_1] 39 (0, 0)) (bA_ BK399) hb); have n1_ := zA (zU (g := gb400) (o := .cells #[.int .i64 a2_0, .int .i64 a2_1] 53 (0, 0)) (bA_ BK400) hb); have n2_ := zA (below_step (bB_ HB) hb); clear BK399; clear BK400; clear HB; have BK399 := n0_; have BK400 := n1_; have HB := n2_; clear n0_ n1_ n2_; (try clear hb); (try clear hb2); (try clear hk); (try clear hi)))
  go_ret
  exact ⟨by first | rfl | (simp [errW_none, errW_some] <;> rfl) | (simp [*, errW_none, errW_some] <;> rfl), bB_ HB⟩
 ·rw [if_neg c5] at H
  have c5b0 : decide (t401 < 0) = false := decide_eq_false c5
  clear c5
  replace H := Option.bind_eq_some_iff.mp H
  obtain ⟨⟨t402, t403⟩, A110, H⟩ := H
  replace H : ((laws_toPoint.f a2_0 a2_1).bind fun bt406 => ((spec_SketchMove.f k t402 t403 a1 bt406.1 bt406.2).bind fun bt408 => ((laws_toSketch.f k a0_0 l0_1).bind fun bt415 => ((laws_toPoint.f a2_0 a2_1).bind fun bt420 => ((impl_SketchMove.f k bt415.1 bt415.2 a1 bt420.1 bt420.2).bind fun bt422 => ((laws_eqPointS.f k bt422.1 bt408.1).bind fun t429 => (if t429 = true then (if bt422.2.1 = bt408.2.1 then ((laws_eqIntS.f k bt422.2.2 bt408.2.2).bind fun t430 => (laws_FnExactSketchMove.j0 k a1 bt408.1 bt408.2.1 bt408.2.2 bt422.1 bt422.2.1 bt422.2.2 (!t430) a0_0 l0_1 a2_0 a2_1 bt415.1 bt415.2)) else (laws_FnExactSketchMove.j0 k a1 bt408.1 bt408.2.1 bt408.2.2 bt422.1 bt422.2.1 bt422.2.2 true a0_0 l0_1 a2_0 a2_1 bt415.1 bt415.2)) else (laws_FnExactSketchMove.j0 k a1 bt408.1 bt408.2.1 bt408.2.2 bt422.1 bt422.2.1 bt422.2.2 true a0_0 l0_1 a2_0 a2_1 bt415.1 bt415.2)))))))) = some r := H
  have A11 := zA A110
  clear A110
  replace H := Option.bind_eq_some_iff.mp H
  obtain ⟨⟨t406, t407⟩, A120, H⟩ := H
  replace H : ((spec_SketchMove.f k t402 t403 a1 t406 t407).bind fun bt408 => ((laws_toSketch.f k a0_0 l0_1).bind fun bt415 => ((laws_toPoint.f a2_0 a2_1).bind fun bt420 => ((impl_SketchMove.f k bt415.1 bt415.2 a1 bt420.1 bt420.2).bind fun bt422 => ((laws_eqPointS.f k bt422.1 bt408.1).bind fun t429 => (if t429 = true then (if bt422.2.1 = bt408.2.1 then ((laws_eqIntS.f k bt422.2.2 bt408.2.2).bind fun t430 => (laws_FnExactSketchMove.j0 k a1 bt408.1 bt408.2.1 bt408.2.2 bt422.1 bt422.2.1 bt422.2.2 (!t430) a0_0 l0_1 a2_0 a2_1 bt415.1 bt415.2)) else (laws_FnExactSketchMove.j0 k a1 bt408.1 bt408.2.1 bt408.2.2 bt422.1 bt422.2.1 bt422.2.2 true a0_0 l0_1 a2_0 a2_1 bt415.1 bt415.2)) else (laws_FnExactSketchMove.j0 k a1 bt408.1 bt408.2.1 bt408.2.2 bt422.1 bt422.2.1 bt422.2.2 true a0_0 l0_1 a2_0 a2_1 bt415.1 bt415.2))))))) = some r := H
  have A12 := zA A120
  clear A120
  replace H := Option.bind_eq_some_iff.mp H
  obtain ⟨⟨t408, t411, t412⟩, A130, H⟩ := H
  replace H : ((laws_toSketch.f k a0_0 l0_1).bind fun bt415 => ((laws_toPoint.f a2_0 a2_1).bind fun bt420 => ((impl_SketchMove.f k bt415.1 bt415.2 a1 bt420.1 bt420.2).bind fun bt422 => ((laws_eqPointS.f k bt422.1 t408).bind fun t429 => (if t429 = true then (if bt422.2.1 = t411 then ((laws_eqIntS.f k bt422.2.2 t412).bind fun t430 => (laws_FnExactSketchMove.j0 k a1 t408 t411 t412 bt422.1 bt422.2.1 bt422.2.2 (!t430) a0_0 l0_1 a2_0 a2_1 bt415.1 bt415.2)) else (laws_FnExactSketchMove.j0 k a1 t408 t411 t412 bt422.1 bt422.2.1 bt422.2.2 true a0_0 l0_1 a2_0 a2_1 bt415.1 bt415.2)) else (laws_FnExactSketchMove.j0 k a1 t408 t411 t412 bt422.1 bt422.2.1 bt422.2.2 true a0_0 l0_1 a2_0 a2_1 bt415.1 bt415.2)))))) = some r := H
  have A13 := zA A130
  clear A130
  replace H := Option.bind_eq_some_iff.mp H
  obtain ⟨⟨t415, t416⟩, A140, H⟩ := H
  replace H : ((laws_toPoint.f a2_0 a2_1).bind fun bt420 => ((impl_SketchMove.f k t415 t416 a1 bt420.1 bt420.2).bind fun bt422 => ((laws_eqPointS.f k bt422.1 t408).bind fun t429 => (if t429 = true then (if bt422.2.1 = t411 then ((laws_eqIntS.f k bt422.2.2 t412).bind fun t430 => (laws_FnExactSketchMove.j0 k a1 t408 t411 t412 bt422.1 bt422.2.1 bt422.2.2 (!t430) a0_0 l0_1 a2_0 a2_1 t415 t416)) else (laws_FnExactSketchMove.j0 k a1 t408 t411 t412 bt422.1 bt422.2.1 bt422.2.2 true a0_0 l0_1 a2_0 a2_1 t415 t416)) else (laws_FnExactSketchMove.j0 k a1 t408 t411 t412 bt422.1 bt422.2.1 bt422.2.2 true a0_0 l0_1 a2_0 a2_1 t415 t416))))) = some r := H
  have A14 := zA A140
  clear A140
  replace H := Option.bind_eq_some_iff.mp H
  obtain ⟨⟨t420, t421⟩, A150, H⟩ := H
  replace H : ((impl_SketchMove.f k t415 t416 a1 t420 t421).bind fun bt422 => ((laws_eqPointS.f k bt422.1 t408).bind fun t429 => (if t429 = true then (if bt422.2.1 = t411 then ((laws_eqIntS.f k bt422.2.2 t412).bind fun t430 => (laws_FnExactSketchMove.j0 k a1 t408 t411 t412 bt422.1 bt422.2.1 bt422.2.2 (!t430) a0_0 l0_1 a2_0 a2_1 t415 t416)) else (laws_FnExactSketchMove.j0 k a1 t408 t411 t412 bt422.1 bt422.2.1 bt422.2.2 true a0_0 l0_1 a2_0 a2_1 t415 t416)) else (laws_FnExactSketchMove.j0 k a1 t408 t411 t412 bt422.1 bt422.2.1 bt422.2.2 true a0_0 l0_1 a2_0 a2_1 t415 t416)))) = some r := H
  have A15 := zA A150
  clear A150
  replace H := Option.bind_eq_some_iff.mp H
  obtain ⟨⟨t422, t425, t426⟩, A160, H⟩ := H
  replace H : ((laws_eqPointS.f k t422 t408).bind fun t429 => (if t429 = true then (if t425 = t411 then ((laws_eqIntS.f k t426 t412).bind fun t430 => (laws_FnExactSketchMove.j0 k a1 t408 t411 t412 t422 t425 t426 (!t430) a0_0 l0_1 a2_0 a2_1 t415 t416)) else (laws_FnExactSketchMove.j0 k a1 t408 t411 t412 t422 t425 t426 true a0_0 l0_1 a2_0 a2_1 t415 t416)) else (laws_FnExactSketchMove.j0 k a1 t408 t411 t412 t422 t425 t426 true a0_0 l0_1 a2_0 a2_1 t415 t416))) = some r := H
  have A16 := zA A160
  clear A160
  have HC17 := zA H
  clear H
  go_enter Try.func7, Try.ntmps7
  try go_wp2_with (first | ((with_reducible refine gate_dst (N := 3) rfl ?_); refine box_event ?hg (N := 3) ?hd (cs := #[.int .i64 a0_0, .slice A0_1 l0_1.length c0_1]) (t := 39) ?hr ?_; (case hd => rfl); (case hg => rfl); (case hr => first | (go_simp; done) | (go_simp; rfl)); intro gb399 hg w18 hbox hb; have n0_ := zA (below_step (bB_ HB) hb); have n1_ := zA (hbox); have n2_ := zA ((by rw [hg]; exact (zT (bB_ HB)) : w.heap.size ≤ gb399)); have n3_ := zA ((by rw [hg]; exact (zT (bB_ HB)) : w.heap.size ≤ gb399)); clear HB; have HB := n0_; have BK399 := n1_; have GW399 := n2_; have GE399 := n3_; clear n0_ n1_ n2_ n3_; clear hb hbox hg) | ((with_reducible refine gate_dst (N := 5) rfl ?_); refine box_event ?hg (N := 5) ?hd (cs := #[.int .i64 a2_0, .int .i64 a2_1]) (t := 53) ?hr ?_; (case hd => rfl); (case hg => rfl); (case hr => first | (go_simp; done) | (go_simp; rfl)); intro gb400 hg w19 hbox hb; have n0_ := zA (zU (g := gb399) (o := .cells #[.int .i64 a0_0, .slice A0_1 l0_1.length c0_1] 39 (0, 0)) (bA_ BK399) hb); have n1_ := zA (below_step (bB_ HB) hb); have n2_ := zA (hbox); have n3_ := zA ((by rw [hg]; exact (zT (bB_ HB)) : w.heap.size ≤ gb400)); have n4_ := zA ((by rw [hg]; exact (zT (bB_ HB)) : w.heap.size ≤ gb400)); have n5_ := zA ((by rw [hg]; exact Nat.ne_of_lt (blk_lt (g := gb399) (o := .cells #[.int .i64 a0_0, .slice A0_1 l0_1.length c0_1] 39 (0, 0)) (bA_ BK399)) : gb399 ≠ gb400)); have n6_ := zA ((by rw [hg]; exact Nat.ne_of_gt (blk_lt (g := gb399) (o := .cells #[.int .i64 a0_0, .slice A0_1 l0_1.length c0_1] 39 (0, 0)) (bA_ BK399)) : gb400 ≠ gb399)); clear BK399; clear HB; have BK399 := n0_; have HB := n1_; have BK400 := n2_; have GW400 := n3_; have GE400 := n4_; have NB399_400 := n5_; have NB400_399 := n6_; clear n0_ n1_ n2_ n3_ n4_ n5_ n6_; clear hb hbox hg; have hnb20 := NB399_400.out; have hnc20 := NB400_399.out; have hcz21_0 : w19.cell? ⟨gb399, 0, none⟩ = some (.int .i64 a0_0) := (blk_cell BK399.out 0).trans rfl; have hcz21_1 : w19.cell? ⟨gb399, 1, none⟩ = some (.slice A0_1 l0_1.length c0_1) := (blk_cell BK399.out 1).trans rfl; have hfz21_0 := blk_frozen BK399.out 0; have hfz21_1 := blk_frozen BK399.out 1) | ((with_reducible refine gate_callee (f := 15) rfl ?_); refine goesL_ (some 23) rfl rfl Try.func15 (by kernel_rfl) rfl #[.agg #[.int .i64 a0_0, .slice A0_1 l0_1.length c0_1], .int .i64 1048576] rfl (by (try simp only [List.map_toArray, List.map_cons, List.map_nil]); first | done | rfl | (simp only [List.length_drop, List.length_take]; rfl)) ?_; (with_reducible refine (laws_szSketch.calls a0_0 _ _ l0_1 1048576 t401 _ ?side1 ?side2 A4.out).mono ?_); (case side1 => repeat (first | exact (Kd.C_below HR0_1.out HB.out) | (with_reducible refine zI ?_ _) | (with_reducible refine zH ?_ _) | (with_reducible refine zJ ?_))); (case side2 => exact HC0_1.out); rintro e w22 ⟨rfl, hb⟩; refine ⟨_, rfl, ?_⟩; have n0_ := zA (zU (g := gb399) (o := .cells #[.int .i64 a0_0, .slice A0_1 l0_1.length c0_1] 39 (0, 0)) (bA_ BK399) hb); have n1_ := zA (zU (g := gb400) (o := .cells #[.int .i64 a2_0, .int .i64 a2_1] 53 (0, 0)) (bA_ BK400) hb); have n2_ := zA (below_step (bB_ HB) hb); clear BK399; clear BK400; clear HB; have BK399 := n0_; have BK400 := n1_; have HB := n2_; clear n0_ n1_ n2_; (try clear hb); (try clear hb2); (try clear hk); (try clear hi)))
  have n0_ := zA (zN BK399.out)
  have n1_ := zA (zN BK400.out)
  have n2_ := zA (zQ HB.out)
  clear BK399
  clear BK400
  clear HB
  have BK399 := n0_
  have BK400 := n1_
  have HB := n2_
  clear n0_ n1_ n2_
  refine start_ (n := 13) (S := fun w' => w'.cell? ⟨gb399, 0, none⟩ = some (.int .i64 a0_0) ∧ w'.cell? ⟨gb399, 1, none⟩ = some (.slice A0_1 l0_1.length c0_1) ∧ w'.cell? ⟨gb400, 0, none⟩ = some (.int .i64 a2_0) ∧ w'.cell? ⟨gb400, 1, none⟩ = some (.int .i64 a2_1)) (ds := []) #[false, false, false, false, false, false, false, false, false, false, false, false, false] (by kernel_rfl) rfl rfl ⟨(blk_cell BK399.out 0).trans rfl, (blk_cell BK399.out 1).trans rfl, (blk_cell BK400.out 0).trans rfl, (blk_cell BK400.out 1).trans rfl⟩ (fun hHeld => ?_); refine with_tabW laws_FnExactSketchMove.tab5 laws_FnExactSketchMove.bits5 (fun HT_ HW_ => ?_)
  generalize w22.drew = w23 at BK399 BK400 HB hHeld ⊢
  refine pure_ (i := 2) (N := some 29) (v := ?_) (a' := ?_) #[false, false, true, false, false, false, false, false, false, false, false, false, false] rfl rfl (any_of HT_.out (by kernel_rfl)) (fun _ _ _ h => h) (Or.inl ⟨by rfl, ?_⟩) ?_ ?_
  rotate_left
  ·intro w'
   go_simp
   with_reducible rfl
  rotate_left
  ·simp only [Act.put, zB, zC, zD, i64_w, i32_w]
   rfl
  refine take_ (i := 0) (N := some 27) (v := ?_) (a' := ?_) #[true, false, true, false, false, false, false, false, false, false, false, false, false] rfl rfl (take_ofW HT_.out HW_.out (by kernel_rfl)) (fun _ _ _ h => h) (Or.inl ⟨by rfl, ?_⟩) hHeld ?_ ?_
  rotate_left
  ·rintro w' ⟨s0, s1, s2, s3⟩
   go_simp
   with_reducible rfl
  rotate_left
  ·simp only [Act.put, zB, zC, zD, i64_w, i32_w]
   rfl
  refine take_ (i := 3) (N := some 30) (v := ?_) (a' := ?_) #[true, false, true, true, false, false, false, false, false, false, false, false, false] rfl rfl (take_ofW HT_.out HW_.out (by kernel_rfl)) (fun _ _ _ h => h) (Or.inl ⟨by rfl, ?_⟩) hHeld ?_ ?_
  rotate_left
  ·rintro w' ⟨s0, s1, s2, s3⟩
   go_simp
   with_reducible rfl
  rotate_left
  ·simp only [Act.put, zB, zC, zD, i64_w, i32_w]
   rfl
  refine one_ (i := 1) (N := some 28) #[true, true, true, true, false, false, false, false, false, false, false, false, false] rfl rfl (one_of HT_.out (by kernel_rfl)) (by decide) (fun K hK => ?_)
  refine goes_ Try.func17 (by kernel_rfl) rfl #[.agg #[.int .i64 a0_0, .slice A0_1 l0_1.length c0_1]] (by rfl) rfl rfl (by (try simp only [List.map_toArray, List.map_cons, List.map_nil]); first | done | rfl | (simp only [List.length_drop, List.length_take]; rfl)) ?_
  with_reducible refine (laws_toSketch.calls k a0_0 _ _ l0_1 t402 t403 _ ?side1 ?side2 A11.out).mono ?_
  (case side1 => repeat (first | exact (Kd.C_below HR0_1.out HB.out) | (with_reducible refine zI ?_ _) | (with_reducible refine zH ?_ _) | (with_reducible refine zJ ?_)))
  (case side2 => exact HC0_1.out)
  rintro e w24 ⟨v404, rfl, ho0, hb⟩
  refine ⟨_, rfl, ?_⟩
  have n0_ := zA (Kd.R_lower ho0 (zT (bB_ HB)))
  have n1_ := zA (zU (g := gb399) (o := .cells #[.int .i64 a0_0, .slice A0_1 l0_1.length c0_1] 39 (0, 0)) (bA_ BK399) hb)
  have n2_ := zA (zU (g := gb400) (o := .cells #[.int .i64 a2_0, .int .i64 a2_1] 53 (0, 0)) (bA_ BK400) hb)
  have n3_ := zA (below_step (bB_ HB) hb)
  clear BK399
  clear BK400
  clear HB
  have HO405 := n0_
  have BK399 := n1_
  have BK400 := n2_
  have HB := n3_
  clear n0_ n1_ n2_ n3_
  (try clear hb)
  (try clear hb2)
  (try clear hk)
  (try clear hi)
  (try clear ho0)
  refine hK.out _ _ ⟨(blk_cell BK399.out 0).trans rfl, (blk_cell BK399.out 1).trans rfl, (blk_cell BK400.out 0).trans rfl, (blk_cell BK400.out 1).trans rfl⟩ (fun hHeld => ?_)
  clear hK K
  refine norm_ (a' := ?_) ?_ ?_
  rotate_left
  ·show Act.put _ (some 28) _ = _
   simp only [Act.put, zB, zC, zD, i64_w, i32_w]
   rfl
  refine one_ (i := 4) (N := some 31) #[true, true, true, true, true, false, false, false, false, false, false, false, false] rfl rfl (one_of HT_.out (by kernel_rfl)) (by decide) (fun K hK => ?_)
  refine goes_ Try.func30 (by kernel_rfl) rfl #[.agg #[.int .i64 a2_0, .int .i64 a2_1]] (by rfl) rfl rfl (by (try simp only [List.map_toArray, List.map_cons, List.map_nil]); first | done | rfl | (simp only [List.length_drop, List.length_take]; rfl)) ?_
  with_reducible refine (laws_toPoint.calls a2_0 a2_1 t406 t407 _ A12.out).mono ?_
  rintro e w25 ⟨rfl, hb⟩
  refine ⟨_, rfl, ?_⟩
  have n0_ := zA (zL (bC_ HO405) hb)
  have n1_ := zA (zU (g := gb399) (o := .cells #[.int .i64 a0_0, .slice A0_1 l0_1.length c0_1] 39 (0, 0)) (bA_ BK399) hb)
  have n2_ := zA (zU (g := gb400) (o := .cells #[.int .i64 a2_0, .int .i64 a2_1] 53 (0, 0)) (bA_ BK400) hb)
  have n3_ := zA (below_step (bB_ HB) hb)
  clear HO405
  clear BK399
  clear BK400
  clear HB
  have HO405 := n0_
  have BK399 := n1_
  have BK400 := n2_
  have HB := n3_
  clear n0_ n1_ n2_ n3_
  (try clear hb)
  (try clear hb2)
  (try clear hk)
  (try clear hi)
  obtain ⟨Ao26, co26, eo26⟩ := Kd.R_slice HO405.out
  (first | subst eo26 | (injection eo26 with f1_ f2_ f3_; have f4_ := f1_.symm; have f5_ := f3_.symm; clear f1_ f2_ f3_; subst f4_; subst f5_))
  refine hK.out _ _ ⟨(blk_cell BK399.out 0).trans rfl, (blk_cell BK399.out 1).trans rfl, (blk_cell BK400.out 0).trans rfl, (blk_cell BK400.out 1).trans rfl⟩ (fun hHeld => ?_)
  clear hK K
  refine norm_ (a' := ?_) ?_ ?_
  rotate_left
  ·show Act.put _ (some 31) _ = _
   simp only [Act.put, zB, zC, zD, i64_w, i32_w]
   rfl
  refine one_ (i := 5) (N := some 32) #[true, true, true, true, true, true, false, false, false, false, false, false, false] rfl rfl (one_of HT_.out (by kernel_rfl)) (by decide) (fun K hK => ?_)
  refine goes_ Try.func22 (by kernel_rfl) rfl #[.agg #[.int .i64 t402, .slice Ao26 t403.length co26], .int .i64 a1, .agg #[.int .i64 t406, .int .i64 t407]] (by rfl) rfl rfl (by (try simp only [List.map_toArray, List.map_cons, List.map_nil]); first | done | rfl | (simp only [List.length_drop, List.length_take]; rfl)) ?_
  with_reducible refine (spec_SketchMove.calls k t402 _ _ t403 a1 t406 t407 t408 t411 t412 _ ?side1 ?side2 A13.out).mono ?_
  (case side1 => repeat (first | exact (zK HO405.out).2.2 | (with_reducible refine zI ?_ _) | (with_reducible refine zH ?_ _) | (with_reducible refine zJ ?_)))
  (case side2 => exact (zK HO405.out).2.1)
  rintro e w27 ⟨v409, v413, rfl, ho0, ho1, hb⟩
  refine ⟨_, rfl, ?_⟩
  have n0_ := zA (zL (bC_ HO405) hb)
  have n1_ := zA (Kd.R_lower ho0 (zT (bB_ HB)))
  have n2_ := zA (Kd.R_lower ho1 (zT (bB_ HB)))
  have n3_ := zA (zU (g := gb399) (o := .cells #[.int .i64 a0_0, .slice A0_1 l0_1.length c0_1] 39 (0, 0)) (bA_ BK399) hb)
  have n4_ := zA (zU (g := gb400) (o := .cells #[.int .i64 a2_0, .int .i64 a2_1] 53 (0, 0)) (bA_ BK400) hb)
  have n5_ := zA (below_step (bB_ HB) hb)
  clear HO405
  clear BK399
  clear BK400
  clear HB
  have HO405 := n0_
  have HO410 := n1_
  have HO414 := n2_
  have BK399 := n3_
  have BK400 := n4_
  have HB := n5_
  clear n0_ n1_ n2_ n3_ n4_ n5_
  (try clear hb)
  (try clear hb2)
  (try clear hk)
  (try clear hi)
  (try clear ho0)
  (try clear ho1)
  refine hK.out _ _ ⟨(blk_cell BK399.out 0).trans rfl, (blk_cell BK399.out 1).trans rfl, (blk_cell BK400.out 0).trans rfl, (blk_cell BK400.out 1).trans rfl⟩ (fun hHeld => ?_)
  clear hK K
  refine norm_ (a' := ?_) ?_ ?_
  rotate_left
  ·show Act.put _ (some 32) _ = _
   simp only [Act.put, zB, zC, zD, i64_w, i32_w]
   rfl
  refine pure_ (i := 6) (N := some 26) (v := ?_) (a' := ?_) #[true, true, true, true, true, true, true, false, false, false, false, false, false] rfl rfl (any_of HT_.out (by kernel_rfl)) (fun _ _ _ h => h) (Or.inl ⟨by rfl, ?_⟩) ?_ ?_
  rotate_left
  ·intro w'
   go_simp
   with_reducible rfl
  rotate_left
  ·simp only [Act.put, zB, zC, zD, i64_w, i32_w]
   rfl
  refine pure_ (i := 7) (N := some 33) (v := ?_) (a' := ?_) #[true, true, true, true, true, true, true, true, false, false, false, false, false] rfl rfl (any_of HT_.out (by kernel_rfl)) (fun _ _ _ h => h) (Or.inl ⟨by rfl, ?_⟩) ?_ ?_
  rotate_left
  ·intro w'
   go_simp
   with_reducible rfl
  rotate_left
  ·simp only [Act.put, zB, zC, zD, i64_w, i32_w]
   rfl
  refine pure_ (i := 8) (N := some 34) (v := ?_) (a' := ?_) #[true, true, true, true, true, true, true, true, true, false, false, false, false] rfl rfl (any_of HT_.out (by kernel_rfl)) (fun _ _ _ h => h) (Or.inl ⟨by rfl, ?_⟩) ?_ ?_
  rotate_left
  ·intro w'
   go_simp
   with_reducible rfl
  rotate_left
  ·simp only [Act.put, zB, zC, zD, i64_w, i32_w]
   rfl
  refine pure_ (i := 9) (N := some 35) (v := ?_) (a' := ?_) #[true, true, true, true, true, true, true, true, true, true, false, false, false] rfl rfl (any_of HT_.out (by kernel_rfl)) (fun _ _ _ h => h) (Or.inl ⟨by rfl, ?_⟩) ?_ ?_
  rotate_left
  ·intro w'
   go_simp
   with_reducible rfl
  rotate_left
  ·simp only [Act.put, zB, zC, zD, i64_w, i32_w]
   rfl
  refine pure_ (i := 10) (N := some 8) (v := ?_) (a' := ?_) #[true, true, true, true, true, true, true, true, true, true, true, false, false] rfl rfl (any_of HT_.out (by kernel_rfl)) (fun _ _ _ h => h) (Or.inl ⟨by rfl, ?_⟩) ?_ ?_
  rotate_left
  ·intro w'
   go_simp
   with_reducible rfl
  rotate_left
  ·simp only [Act.put, zB, zC, zD, i64_w, i32_w]
   rfl
  refine pure_ (i := 11) (N := some 9) (v := ?_) (a' := ?_) #[true, true, true, true, true, true, true, true, true, true, true, true, false] rfl rfl (any_of HT_.out (by kernel_rfl)) (fun _ _ _ h => h) (Or.inl ⟨by rfl, ?_⟩) ?_ ?_
  rotate_left
  ·intro w'
   go_simp
   with_reducible rfl
  rotate_left
  ·simp only [Act.put, zB, zC, zD, i64_w, i32_w]
   rfl
  refine pure_ (i := 12) (N := some 10) (v := ?_) (a' := ?_) #[true, true, true, true, true, true, true, true, true, true, true, true, true] rfl rfl (any_of HT_.out (by kernel_rfl)) (fun _ _ _ h => h) (Or.inl ⟨by rfl, ?_⟩) ?_ ?_
  rotate_left
  ·intro w'
   go_simp
   with_reducible rfl
  rotate_left
  ·simp only [Act.put, zB, zC, zD, i64_w, i32_w]
   rfl
  refine done_ (done_of HT_.out (by kernel_rfl)) ?_
  have hcz28_0 : w27.cell? ⟨gb399, 0, none⟩ = some (.int .i64 a0_0) := (blk_cell BK399.out 0).trans rfl
  have hcz28_1 : w27.cell? ⟨gb399, 1, none⟩ = some (.slice A0_1 l0_1.length c0_1) := (blk_cell BK399.out 1).trans rfl
  have hfz28_0 := blk_frozen BK399.out 0
  have hfz28_1 := blk_frozen BK399.out 1
  try go_wp2_with (first | ((with_reducible refine gate_callee (f := 17) rfl ?_); refine goesL_ (some 37) rfl rfl Try.func17 (by kernel_rfl) rfl #[.agg #[.int .i64 a0_0, .slice A0_1 l0_1.length c0_1]] rfl (by (try simp only [List.map_toArray, List.map_cons, List.map_nil]); first | done | rfl | (simp only [List.length_drop, List.length_take]; rfl)) ?_; (with_reducible refine (laws_toSketch.calls k a0_0 _ _ l0_1 t415 t416 _ ?side1 ?side2 A14.out).mono ?_); (case side1 => repeat (first | exact (Kd.C_below HR0_1.out HB.out) | (with_reducible refine zI ?_ _) | (with_reducible refine zH ?_ _) | (with_reducible refine zJ ?_))); (case side2 => exact HC0_1.out); rintro e w29 ⟨v417, rfl, ho0, hb⟩; refine ⟨_, rfl, ?_⟩; have n0_ := zA (Kd.R_elder' (bC_ HO405) (Kd.R_base ho0) hb); have n1_ := zA (zL (bC_ HO410) hb); have n2_ := zA (zL (bC_ HO414) hb); have n3_ := zA (Kd.R_lower (Kd.R_new' ho0 (Kd.R_lt (bC_ HO405))) (zT (bB_ HB))); have n4_ := zA (zU (g := gb399) (o := .cells #[.int .i64 a0_0, .slice A0_1 l0_1.length c0_1] 39 (0, 0)) (bA_ BK399) hb); have n5_ := zA (zU (g := gb400) (o := .cells #[.int .i64 a2_0, .int .i64 a2_1] 53 (0, 0)) (bA_ BK400) hb); have n6_ := zA (below_step (bB_ HB) hb); clear HO405; clear HO410; clear HO414; clear BK399; clear BK400; clear HB; have HO405 := n0_; have HO410 := n1_; have HO414 := n2_; have HO418 := n3_; have BK399 := n4_; have BK400 := n5_; have HB := n6_; clear n0_ n1_ n2_ n3_ n4_ n5_ n6_; (try clear hb); (try clear hb2); (try clear hk); (try clear hi); (try clear ho0)) | ((with_reducible refine gate_dst (N := 11) rfl ?_); refine box_event ?hg (N := 11) ?hd (cs := #[.int .i64 0, .slice none 0 0]) (t := 25) ?hr ?_; (case hd => rfl); (case hg => rfl); (case hr => first | (go_simp; done) | (go_simp; rfl)); intro gb419 hg w30 hbox hb; have n0_ := zA (zL (bC_ HO405) hb); have n1_ := zA (zL (bC_ HO410) hb); have n2_ := zA (zL (bC_ HO414) hb); have n3_ := zA (zL (bC_ HO418) hb); have n4_ := zA (zU (g := gb399) (o := .cells #[.int .i64 a0_0, .slice A0_1 l0_1.length c0_1] 39 (0, 0)) (bA_ BK399) hb); have n5_ := zA (zU (g := gb400) (o := .cells #[.int .i64 a2_0, .int .i64 a2_1] 53 (0, 0)) (bA_ BK400) hb); have n6_ := zA (below_step (bB_ HB) hb); have n7_ := zA (hbox); have n8_ := zA ((by rw [hg]; exact (zT (bB_ HB)) : w.heap.size ≤ gb419)); have n9_ := zA ((by rw [hg]; exact (zT (bB_ HB)) : w.heap.size ≤ gb419)); have n10_ := zA ((by rw [hg]; exact Nat.ne_of_lt (blk_lt (g := gb399) (o := .cells #[.int .i64 a0_0, .slice A0_1 l0_1.length c0_1] 39 (0, 0)) (bA_ BK399)) : gb399 ≠ gb419)); have n11_ := zA ((by rw [hg]; exact Nat.ne_of_gt (blk_lt (g := gb399) (o := .cells #[.int .i64 a0_0, .slice A0_1 l0_1.length c0_1] 39 (0, 0)) (bA_ BK399)) : gb419 ≠ gb399)); have n12_ := zA ((by rw [hg]; exact Nat.ne_of_lt (blk_lt (g := gb400) (o := .cells #[.int .i64 a2_0, .int .i64 a2_1] 53 (0, 0)) (bA_ BK400)) : gb400 ≠ gb419)); have n13_ := zA ((by rw [hg]; exact Nat.ne_of_gt (blk_lt (g := gb400) (o := .cells #[.int .i64 a2_0, .int .i64 a2_1] 53 (0, 0)) (bA_ BK400)) : gb419 ≠ gb400)); clear HO405; clear HO410; clear HO414; clear HO418; clear BK399; clear BK400; clear HB; have HO405 := n0_; have HO410 := n1_; have HO414 := n2_; have HO418 := n3_; have BK399 := n4_; have BK400 := n5_; have HB := n6_; have BK419 := n7_; have GW419 := n8_; have GE419 := n9_; have NB399_419 := n10_; have NB419_399 := n11_; have NB400_419 := n12_; have NB419_400 := n13_; clear n0_ n1_ n2_ n3_ n4_ n5_ n6_ n7_ n8_ n9_ n10_ n11_ n12_ n13_; clear hb hbox hg; have hnb31 := NB419_399.out; have hnc31 := NB399_419.out; have hnb32 := NB419_400.out; have hnc32 := NB400_419.out; have hcz33_0 : w30.cell? ⟨gb419, 0, none⟩ = some (.int .i64 0) := (blk_cell BK419.out 0).trans rfl; have hcz33_1 : w30.cell? ⟨gb419, 1, none⟩ = some (.slice none 0 0) := (blk_cell BK419.out 1).trans rfl; have hfz33_0 := blk_frozen BK419.out 0; have hfz33_1 := blk_frozen BK419.out 1; obtain ⟨Ao34, co34, eo34⟩ := Kd.R_slice HO418.out; subst eo34))
  have n0_ : Aside0 (Kd.R k35 35 ((w30.setCell ⟨gb419, 0, none⟩ (.int .i64 t415)).setCell ⟨gb419, 1, none⟩ (.slice Ao34 t416.length co34)) w.heap.size (fun k_ => some k_ ≠ (.slice Ao34 t416.length co34 : Value).ownBlock) (.slice Ao26 t403.length co26) t403) := ⟨by (with_reducible repeat (first | apply zF | apply zE | apply zG)); exact Kd.R_mono (Kd.R_far (p := ⟨gb419, 1, none⟩) (Kd.R_far (p := ⟨gb419, 0, none⟩) (Kd.R_types HO405.out BK419.out (by decide)) (fun _ hk => hk.2) (.int .i64 t415)) (fun _ hk => hk.2) (.slice Ao34 t416.length co34)) (fun _ hk => hk.1.2)⟩
  have n1_ : Aside0 (Kd.R k48 48 ((w30.setCell ⟨gb419, 0, none⟩ (.int .i64 t415)).setCell ⟨gb419, 1, none⟩ (.slice Ao34 t416.length co34)) w.heap.size (fun _ => True) v409 t408) := ⟨by (with_reducible repeat (first | apply zF | apply zE | apply zG)); exact Kd.R_mono (Kd.R_far (p := ⟨gb419, 1, none⟩) (Kd.R_far (p := ⟨gb419, 0, none⟩) (Kd.R_types HO410.out BK419.out (by decide)) (fun _ hk => hk.2) (.int .i64 t415)) (fun _ hk => hk.2) (.slice Ao34 t416.length co34)) (fun _ hk => trivial)⟩
  have n2_ : Aside0 (Kd.R (Kd.int .i64) 3 ((w30.setCell ⟨gb419, 0, none⟩ (.int .i64 t415)).setCell ⟨gb419, 1, none⟩ (.slice Ao34 t416.length co34)) w.heap.size (fun _ => True) v413 t412) := ⟨by (with_reducible repeat (first | apply zF | apply zE | apply zG)); exact Kd.R_mono (Kd.R_far (p := ⟨gb419, 1, none⟩) (Kd.R_far (p := ⟨gb419, 0, none⟩) (Kd.R_types HO414.out BK419.out (by decide)) (fun _ hk => hk.2) (.int .i64 t415)) (fun _ hk => hk.2) (.slice Ao34 t416.length co34)) (fun _ hk => trivial)⟩
  have n3_ : Aside0 (Kd.R k35 35 ((w30.setCell ⟨gb419, 0, none⟩ (.int .i64 t415)).setCell ⟨gb419, 1, none⟩ (.slice Ao34 t416.length co34)) w.heap.size (fun k_ => some k_ ≠ (.slice Ao26 t403.length co26 : Value).ownBlock) (.slice Ao34 t416.length co34) t416) := ⟨by (with_reducible repeat (first | apply zF | apply zE | apply zG)); exact Kd.R_mono (Kd.R_far (p := ⟨gb419, 1, none⟩) (Kd.R_far (p := ⟨gb419, 0, none⟩) (Kd.R_types HO418.out BK419.out (by decide)) (fun _ hk => hk.2) (.int .i64 t415)) (fun _ hk => hk.2) (.slice Ao34 t416.length co34)) (fun _ hk => hk.1.2)⟩
  have n4_ : Aside0 (((w30.setCell ⟨gb419, 0, none⟩ (.int .i64 t415)).setCell ⟨gb419, 1, none⟩ (.slice Ao34 t416.length co34)).heap[gb399]? = some (.cells #[.int .i64 a0_0, .slice A0_1 l0_1.length c0_1] 39 (0, 0))) := ⟨bD_ BK399⟩
  have n5_ : Aside0 (((w30.setCell ⟨gb419, 0, none⟩ (.int .i64 t415)).setCell ⟨gb419, 1, none⟩ (.slice Ao34 t416.length co34)).heap[gb400]? = some (.cells #[.int .i64 a2_0, .int .i64 a2_1] 53 (0, 0))) := ⟨bD_ BK400⟩
  have n6_ : Aside0 (((w30.setCell ⟨gb419, 0, none⟩ (.int .i64 t415)).setCell ⟨gb419, 1, none⟩ (.slice Ao34 t416.length co34)).heap[gb419]? = some (.cells #[.int .i64 t415, .slice Ao34 t416.length co34] 25 (0, 0))) := ⟨by (with_reducible repeat (first | refine zM ?_ _ | refine zN ?_ | refine zO ?_ _)); refine blk_put (cs := #[.int .i64 t415, .slice none 0 0]) ?_ 1 _ rfl; (with_reducible repeat (first | refine zM ?_ _ | refine zN ?_ | refine zO ?_ _)); refine blk_put (cs := #[.int .i64 0, .slice none 0 0]) ?_ 0 _ rfl; (with_reducible repeat (first | refine zM ?_ _ | refine zN ?_ | refine zO ?_ _)); exact BK419.out⟩
  have n7_ : Aside0 (Below w.heap.size w ((w30.setCell ⟨gb419, 0, none⟩ (.int .i64 t415)).setCell ⟨gb419, 1, none⟩ (.slice Ao34 t416.length co34))) := ⟨bB_ HB⟩
  (try clear HO405)
  (try clear HO410)
  (try clear HO414)
  (try clear HO418)
  (try clear BK399)
  (try clear BK400)
  (try clear BK419)
  (try clear HB)
  generalize ((w30.setCell ⟨gb419, 0, none⟩ (.int .i64 t415)).setCell ⟨gb419, 1, none⟩ (.slice Ao34 t416.length co34)) = w35 at n0_ n1_ n2_ n3_ n4_ n5_ n6_ n7_ ⊢
  have HO405 := n0_
  have HO410 := n1_
  have HO414 := n2_
  have HO418 := n3_
  have BK399 := n4_
  have BK400 := n5_
  have BK419 := n6_
  have HB := n7_
  clear n0_ n1_ n2_ n3_ n4_ n5_ n6_ n7_
  have n0_ := zA (zG HO405.out)
  have n1_ := zA (zG HO410.out)
  have n2_ := zA (zG HO414.out)
  have n3_ := zA (zG HO418.out)
  have n4_ := zA (zN BK399.out)
  have n5_ := zA (zN BK400.out)
  have n6_ := zA (zN BK419.out)
  have n7_ := zA (zQ HB.out)
  clear HO405
  clear HO410
  clear HO414
  clear HO418
  clear BK399
  clear BK400
  clear BK419
  clear HB
  have HO405 := n0_
  have HO410 := n1_
  have HO414 := n2_
  have HO418 := n3_
  have BK399 := n4_
  have BK400 := n5_
  have BK419 := n6_
  have HB := n7_
  clear n0_ n1_ n2_ n3_ n4_ n5_ n6_ n7_
  refine start_ (n := 12) (S := fun w' => w'.cell? ⟨gb419, 0, none⟩ = some (.int .i64 t415) ∧ w'.cell? ⟨gb419, 1, none⟩ = some (.slice Ao34 t416.length co34) ∧ w'.cell? ⟨gb400, 0, none⟩ = some (.int .i64 a2_0) ∧ w'.cell? ⟨gb400, 1, none⟩ = some (.int .i64 a2_1)) (ds := []) #[false, false, false, false, false, false, false, false, false, false, false, false] (by kernel_rfl) rfl rfl ⟨(blk_cell BK419.out 0).trans rfl, (blk_cell BK419.out 1).trans rfl, (blk_cell BK400.out 0).trans rfl, (blk_cell BK400.out 1).trans rfl⟩ (fun hHeld => ?_); refine with_tabW laws_FnExactSketchMove.tab7 laws_FnExactSketchMove.bits7 (fun HT_ HW_ => ?_)
  generalize w35.drew = w36 at HO405 HO410 HO414 HO418 BK399 BK400 BK419 HB hHeld ⊢
  refine pure_ (i := 1) (N := some 40) (v := ?_) (a' := ?_) #[false, true, false, false, false, false, false, false, false, false, false, false] rfl rfl (any_of HT_.out (by kernel_rfl)) (fun _ _ _ h => h) (Or.inl ⟨by rfl, ?_⟩) ?_ ?_
  rotate_left
  ·intro w'
   go_simp
   with_reducible rfl
  rotate_left
  ·simp only [Act.put, zB, zC, zD, i64_w, i32_w]
   rfl
  refine take_ (i := 0) (N := some 39) (v := ?_) (a' := ?_) #[true, true, false, false, false, false, false, false, false, false, false, false] rfl rfl (take_ofW HT_.out HW_.out (by kernel_rfl)) (fun _ _ _ h => h) (Or.inl ⟨by rfl, ?_⟩) hHeld ?_ ?_
  rotate_left
  ·rintro w' ⟨s0, s1, s2, s3⟩
   go_simp
   with_reducible rfl
  rotate_left
  ·simp only [Act.put, zB, zC, zD, i64_w, i32_w]
   rfl
  refine take_ (i := 2) (N := some 41) (v := ?_) (a' := ?_) #[true, true, true, false, false, false, false, false, false, false, false, false] rfl rfl (take_ofW HT_.out HW_.out (by kernel_rfl)) (fun _ _ _ h => h) (Or.inl ⟨by rfl, ?_⟩) hHeld ?_ ?_
  rotate_left
  ·rintro w' ⟨s0, s1, s2, s3⟩
   go_simp
   with_reducible rfl
  rotate_left
  ·simp only [Act.put, zB, zC, zD, i64_w, i32_w]
   rfl
  refine one_ (i := 3) (N := some 42) #[true, true, true, true, false, false, false, false, false, false, false, false] rfl rfl (one_of HT_.out (by kernel_rfl)) (by decide) (fun K hK => ?_)
  refine goes_ Try.func30 (by kernel_rfl) rfl #[.agg #[.int .i64 a2_0, .int .i64 a2_1]] (by rfl) rfl rfl (by (try simp only [List.map_toArray, List.map_cons, List.map_nil]); first | done | rfl | (simp only [List.length_drop, List.length_take]; rfl)) ?_
  with_reducible refine (laws_toPoint.calls a2_0 a2_1 t420 t421 _ A15.out).mono ?_
  rintro e w37 ⟨rfl, hb⟩
  refine ⟨_, rfl, ?_⟩
  have n0_ := zA (zL (bC_ HO405) hb)
  have n1_ := zA (zL (bC_ HO410) hb)
  have n2_ := zA (zL (bC_ HO414) hb)
  have n3_ := zA (zL (bC_ HO418) hb)
  have n4_ := zA (zU (g := gb399) (o := .cells #[.int .i64 a0_0, .slice A0_1 l0_1.length c0_1] 39 (0, 0)) (bA_ BK399) hb)
  have n5_ := zA (zU (g := gb400) (o := .cells #[.int .i64 a2_0, .int .i64 a2_1] 53 (0, 0)) (bA_ BK400) hb)
  have n6_ := zA (zU (g := gb419) (o := .cells #[.int .i64 t415, .slice Ao34 t416.length co34] 25 (0, 0)) (bA_ BK419) hb)
  have n7_ := zA (below_step (bB_ HB) hb)
  clear HO405
  clear HO410
  clear HO414
  clear HO418
  clear BK399
  clear BK400
  clear BK419
  clear HB
  have HO405 := n0_
  have HO410 := n1_
  have HO414 := n2_
  have HO418 := n3_
  have BK399 := n4_
  have BK400 := n5_
  have BK419 := n6_
  have HB := n7_
  clear n0_ n1_ n2_ n3_ n4_ n5_ n6_ n7_
  (try clear hb)
  (try clear hb2)
  (try clear hk)
  (try clear hi)
  refine hK.out _ _ ⟨(blk_cell BK419.out 0).trans rfl, (blk_cell BK419.out 1).trans rfl, (blk_cell BK400.out 0).trans rfl, (blk_cell BK400.out 1).trans rfl⟩ (fun hHeld => ?_)
  clear hK K
  refine norm_ (a' := ?_) ?_ ?_
  rotate_left
  ·show Act.put _ (some 42) _ = _
   simp only [Act.put, zB, zC, zD, i64_w, i32_w]
   rfl
  refine one_ (i := 4) (N := some 43) #[true, true, true, true, true, false, false, false, false, false, false, false] rfl rfl (one_of HT_.out (by kernel_rfl)) (by decide) (fun K hK => ?_)
  refine goes_ Try.func21 (by kernel_rfl) rfl #[.agg #[.int .i64 t415, .slice Ao34 t416.length co34], .int .i64 a1, .agg #[.int .i64 t420, .int .i64 t421]] (by rfl) rfl rfl (by (try simp only [List.map_toArray, List.map_cons, List.map_nil]); first | done | rfl | (simp only [List.length_drop, List.length_take]; rfl)) ?_
  with_reducible refine (impl_SketchMove.calls k t415 _ _ t416 a1 t420 t421 t422 t425 t426 _ ?side1 ?side2 A16.out).mono ?_
  (case side1 => repeat (first | exact (zK HO418.out).2.2 | (with_reducible refine zI ?_ _) | (with_reducible refine zH ?_ _) | (with_reducible refine zJ ?_)))
  (case side2 => exact (zK HO418.out).2.1)
  rintro e w38 ⟨v423, v427, rfl, ho0, ho1, hb⟩
  refine ⟨_, rfl, ?_⟩
  have n0_ := zA (zL (bC_ HO405) hb)
  have n1_ := zA (Kd.R_elder' (bC_ HO410) (Kd.R_base ho0) hb)
  have n2_ := zA (Kd.R_elder' (bC_ HO414) (Kd.R_base ho1) hb)
  have n3_ := zA (zL (bC_ HO418) hb)
  have n4_ := zA (Kd.R_lower (Kd.R_new' ho0 (Kd.R_lt (bC_ HO410))) (zT (bB_ HB)))
  have n5_ := zA (Kd.R_lower (Kd.R_new' ho1 (Kd.R_lt (bC_ HO414))) (zT (bB_ HB)))
  have n6_ := zA (zU (g := gb399) (o := .cells #[.int .i64 a0_0, .slice A0_1 l0_1.length c0_1] 39 (0, 0)) (bA_ BK399) hb)
  have n7_ := zA (zU (g := gb400) (o := .cells #[.int .i64 a2_0, .int .i64 a2_1] 53 (0, 0)) (bA_ BK400) hb)
  have n8_ := zA (zU (g := gb419) (o := .cells #[.int .i64 t415, .slice Ao34 t416.length co34] 25 (0, 0)) (bA_ BK419) hb)
  have n9_ := zA (below_step (bB_ HB) hb)
  clear HO405
  clear HO410
  clear HO414
  clear HO418
  clear BK399
  clear BK400
  clear BK419
  clear HB
  have HO405 := n0_
  have HO410 := n1_
  have HO414 := n2_
  have HO418 := n3_
  have HO424 := n4_
  have HO428 := n5_
  have BK399 := n6_
  have BK400 := n7_
  have BK419 := n8_
  have HB := n9_
  clear n0_ n1_ n2_ n3_ n4_ n5_ n6_ n7_ n8_ n9_
  (try clear hb)
  (try clear hb2)
  (try clear hk)
  (try clear hi)
  (try clear ho0)
  (try clear ho1)
  refine hK.out _ _ ⟨(blk_cell BK419.out 0).trans rfl, (blk_cell BK419.out 1).trans rfl, (blk_cell BK400.out 0).trans rfl, (blk_cell BK400.out 1).trans rfl⟩ (fun hHeld => ?_)
  clear hK K
  refine norm_ (a' := ?_) ?_ ?_
  rotate_left
  ·show Act.put _ (some 43) _ = _
   simp only [Act.put, zB, zC, zD, i64_w, i32_w]
   rfl
  refine pure_ (i := 5) (N := some 38) (v := ?_) (a' := ?_) #[true, true, true, true, true, true, false, false, false, false, false, false] rfl rfl (any_of HT_.out (by kernel_rfl)) (fun _ _ _ h => h) (Or.inl ⟨by rfl, ?_⟩) ?_ ?_
  rotate_left
  ·intro w'
   go_simp
   with_reducible rfl
  rotate_left
  ·simp only [Act.put, zB, zC, zD, i64_w, i32_w]
   rfl
  refine pure_ (i := 6) (N := some 44) (v := ?_) (a' := ?_) #[true, true, true, true, true, true, true, false, false, false, false, false] rfl rfl (any_of HT_.out (by kernel_rfl)) (fun _ _ _ h => h) (Or.inl ⟨by rfl, ?_⟩) ?_ ?_
  rotate_left
  ·intro w'
   go_simp
   with_reducible rfl
  rotate_left
  ·simp only [Act.put, zB, zC, zD, i64_w, i32_w]
   rfl
  refine pure_ (i := 7) (N := some 45) (v := ?_) (a' := ?_) #[true, true, true, true, true, true, true, true, false, false, false, false] rfl rfl (any_of HT_.out (by kernel_rfl)) (fun _ _ _ h => h) (Or.inl ⟨by rfl, ?_⟩) ?_ ?_
  rotate_left
  ·intro w'
   go_simp
   with_reducible rfl
  rotate_left
  ·simp only [Act.put, zB, zC, zD, i64_w, i32_w]
   rfl
  refine pure_ (i := 8) (N := some 46) (v := ?_) (a' := ?_) #[true, true, true, true, true, true, true, true, true, false, false, false] rfl rfl (any_of HT_.out (by kernel_rfl)) (fun _ _ _ h => h) (Or.inl ⟨by rfl, ?_⟩) ?_ ?_
  rotate_left
  ·intro w'
   go_simp
   with_reducible rfl
  rotate_left
  ·simp only [Act.put, zB, zC, zD, i64_w, i32_w]
   rfl
  refine pure_ (i := 9) (N := some 12) (v := ?_) (a' := ?_) #[true, true, true, true, true, true, true, true, true, true, false, false] rfl rfl (any_of HT_.out (by kernel_rfl)) (fun _ _ _ h => h) (Or.inl ⟨by rfl, ?_⟩) ?_ ?_
  rotate_left
  ·intro w'
   go_simp
   with_reducible rfl
  rotate_left
  ·simp only [Act.put, zB, zC, zD, i64_w, i32_w]
   rfl
  refine pure_ (i := 10) (N := some 13) (v := ?_) (a' := ?_) #[true, true, true, true, true, true, true, true, true, true, true, false] rfl rfl (any_of HT_.out (by kernel_rfl)) (fun _ _ _ h => h) (Or.inl ⟨by rfl, ?_⟩) ?_ ?_
  rotate_left
  ·intro w'
   go_simp
   with_reducible rfl
  rotate_left
  ·simp only [Act.put, zB, zC, zD, i64_w, i32_w]
   rfl
  refine pure_ (i := 11) (N := some 14) (v := ?_) (a' := ?_) #[true, true, true, true, true, true, true, true, true, true, true, true] rfl rfl (any_of HT_.out (by kernel_rfl)) (fun _ _ _ h => h) (Or.inl ⟨by rfl, ?_⟩) ?_ ?_
  rotate_left
  ·intro w'
   go_simp
   with_reducible rfl
  rotate_left
  ·simp only [Act.put, zB, zC, zD, i64_w, i32_w]
   rfl
  refine done_ (done_of HT_.out (by kernel_rfl)) ?_
  go_upto_region 8 with (fail)
  go_cut [61] (fun v61 wc => ∃ (kq : Nat) (x61_16 : Bool), v61 = .bool x61_16 ∧ Aside0 (laws_FnExactSketchMove.j0 kq a1 t408 t411 t412 t422 t425 t426 x61_16 a0_0 l0_1 a2_0 a2_1 t415 t416 = some r) ∧ Aside0 (kq ≤ k) ∧ Aside0 (Kd.R k48 48 wc w.heap.size (fun k_ => some k_ ≠ (v423 : Value).ownBlock) v409 t408) ∧ Aside0 (Kd.R (Kd.int .i64) 3 wc w.heap.size (fun k_ => some k_ ≠ (v427 : Value).ownBlock) v413 t412) ∧ Aside0 (Kd.R k48 48 wc w.heap.size (fun k_ => some k_ ≠ (v409 : Value).ownBlock) v423 t422) ∧ Aside0 (Kd.R (Kd.int .i64) 3 wc w.heap.size (fun k_ => some k_ ≠ (v413 : Value).ownBlock) v427 t426) ∧ Aside0 (Kd.R k35 35 wc w.heap.size (fun _ => True) (.slice Ao34 t416.length co34) t416) ∧ Aside0 (wc.heap[gb399]? = some (.cells #[.int .i64 a0_0, (.slice A0_1 l0_1.length c0_1)] 39 (0, 0))) ∧ Aside0 (wc.heap[gb400]? = some (.cells #[.int .i64 a2_0, .int .i64 a2_1] 53 (0, 0))) ∧ Aside0 (wc.heap[gb419]? = some (.cells #[.int .i64 t415, (.slice Ao34 t416.length co34)] 25 (0, 0))) ∧ Aside0 (Below w.heap.size w wc))
  case first =>
   have H := HC17.out
   clear HC17
   replace H := Option.bind_eq_some_iff.mp H
   obtain ⟨t429, A390, H⟩ := H
   replace H : (if t429 = true then (if t425 = t411 then ((laws_eqIntS.f k t426 t412).bind fun t430 => (laws_FnExactSketchMove.j0 k a1 t408 t411 t412 t422 t425 t426 (!t430) a0_0 l0_1 a2_0 a2_1 t415 t416)) else (laws_FnExactSketchMove.j0 k a1 t408 t411 t412 t422 t425 t426 true a0_0 l0_1 a2_0 a2_1 t415 t416)) else (laws_FnExactSketchMove.j0 k a1 t408 t411 t412 t422 t425 t426 true a0_0 l0_1 a2_0 a2_1 t415 t416)) = some r := H
   have A39 := zA A390
   clear A390
   by_cases c40 : t429 = true
   ·subst c40
    have H1 : (if t425 = t411 then ((laws_eqIntS.f k t426 t412).bind fun t430 => (laws_FnExactSketchMove.j0 k a1 t408 t411 t412 t422 t425 t426 (!t430) a0_0 l0_1 a2_0 a2_1 t415 t416)) else (laws_FnExactSketchMove.j0 k a1 t408 t411 t412 t422 t425 t426 true a0_0 l0_1 a2_0 a2_1 t415 t416)) = some r := by rw [if_pos rfl] at H; exact H
    clear H
    have H := H1
    clear H1
    by_cases c41 : t425 = t411
    ·rw [if_pos c41] at H
     have c41b0 : (t425 == t411) = true := beq_iff_eq.mpr c41
     have c41b1 : (t425 != t411) = false := bne_eq_false_iff_eq.mpr c41
     clear c41
     (first | rw [c41b0] | (simp only [i64_w, i32_w]; rw [c41b0]) | skip)
     replace H := Option.bind_eq_some_iff.mp H
     obtain ⟨t430, A420, H⟩ := H
     replace H : (laws_FnExactSketchMove.j0 k a1 t408 t411 t412 t422 t425 t426 (!t430) a0_0 l0_1 a2_0 a2_1 t415 t416) = some r := H
     have A42 := zA A420
     clear A420
     have H' := zA H
     clear H
     obtain ⟨Ao43, co43, eo43⟩ := Kd.R_slice HO424.out
     subst eo43
     obtain ⟨Ao44, co44, eo44⟩ := Kd.R_slice HO410.out
     subst eo44
     go_wp2_with (first | ((with_reducible refine gate_callee (f := 23) rfl ?_); refine goesL_ (some 49) rfl rfl Try.func23 (by kernel_rfl) rfl #[.slice Ao43 t422.length co43, .slice Ao44 t408.length co44] rfl (by (try simp only [List.map_toArray, List.map_cons, List.map_nil]); first | done | rfl | (simp only [List.length_drop, List.length_take]; rfl)) ?_; (with_reducible refine (laws_eqPointS.calls k _ _ t422 _ _ t408 true _ ?side1 ?side2 ?side3 ?side4 A39.out).mono ?_); (case side1 => repeat (first | exact (zK HO424.out).2.2 | (with_reducible refine zI ?_ _) | (with_reducible refine zH ?_ _) | (with_reducible refine zJ ?_))); (case side2 => exact (zK HO424.out).2.1); (case side3 => repeat (first | exact (zK HO410.out).2.2 | (with_reducible refine zI ?_ _) | (with_reducible refine zH ?_ _) | (with_reducible refine zJ ?_))); (case side4 => exact (zK HO410.out).2.1); rintro e w45 ⟨rfl, hb⟩; refine ⟨_, rfl, ?_⟩; have n0_ := zA (zL (bC_ HO405) hb); have n1_ := zA (zL (bC_ HO410) hb); have n2_ := zA (zL (bC_ HO414) hb); have n3_ := zA (zL (bC_ HO418) hb); have n4_ := zA (zL (bC_ HO424) hb); have n5_ := zA (zL (bC_ HO428) hb); have n6_ := zA (zU (g := gb399) (o := .cells #[.int .i64 a0_0, .slice A0_1 l0_1.length c0_1] 39 (0, 0)) (bA_ BK399) hb); have n7_ := zA (zU (g := gb400) (o := .cells #[.int .i64 a2_0, .int .i64 a2_1] 53 (0, 0)) (bA_ BK400) hb); have n8_ := zA (zU (g := gb419) (o := .cells #[.int .i64 t415, .slice Ao34 t416.length co34] 25 (0, 0)) (bA_ BK419) hb); have n9_ := zA (below_step (bB_ HB) hb); clear HO405; clear HO410; clear HO414; clear HO418; clear HO424; clear HO428; clear BK399; clear BK400; clear BK419; clear HB; have HO405 := n0_; have HO410 := n1_; have HO414 := n2_; have HO418 := n3_; have HO424 := n4_; have HO428 := n5_; have BK399 := n6_; have BK400 := n7_; have BK419 := n8_; have HB := n9_; clear n0_ n1_ n2_ n3_ n4_ n5_ n6_ n7_ n8_ n9_; (try clear hb); (try clear hb2); (try clear hk); (try clear hi); obtain ⟨Ao46, co46, eo46⟩ := Kd.R_slice HO428.out; subst eo46; obtain ⟨Ao47, co47, eo47⟩ := Kd.R_slice HO414.out; subst eo47) | (go_at_call 24; (with_reducible refine (laws_eqIntS.calls k _ _ t426 _ _ t412 t430 _ ?side1 ?side2 ?side3 ?side4 A42.out).mono ?_); (case side1 => repeat (first | exact (zK HO428.out).2.2 | (with_reducible refine zI ?_ _) | (with_reducible refine zH ?_ _) | (with_reducible refine zJ ?_))); (case side2 => exact (zK HO428.out).2.1); (case side3 => repeat (first | exact (zK HO414.out).2.2 | (with_reducible refine zI ?_ _) | (with_reducible refine zH ?_ _) | (with_reducible refine zJ ?_))); (case side4 => exact (zK HO414.out).2.1); rintro e w' ⟨rfl, ⟨nd, rfl⟩⟩))
     go_meet
     case rel => exact ⟨_, (!t430), (by first | rfl | (simp; done) | (simp [*]; done)), H', ⟨by first | omega | exact Nat.le_refl _⟩, ⟨by (with_reducible repeat (first | apply zF | apply zE | apply zG)); exact Kd.R_mono HO410.out (fun _ hk => hk.2)⟩, ⟨by (with_reducible repeat (first | apply zF | apply zE | apply zG)); exact Kd.R_mono HO414.out (fun _ hk => hk.2)⟩, ⟨by (with_reducible repeat (first | apply zF | apply zE | apply zG)); exact Kd.R_mono HO424.out (fun _ hk => hk.2)⟩, ⟨by (with_reducible repeat (first | apply zF | apply zE | apply zG)); exact Kd.R_mono HO428.out (fun _ hk => hk.2)⟩, ⟨by (with_reducible repeat (first | apply zF | apply zE | apply zG)); exact Kd.R_mono HO418.out (fun _ hk => trivial)⟩, ⟨bA_ BK399⟩, ⟨bA_ BK400⟩, ⟨bA_ BK419⟩, ⟨bB_ HB⟩⟩
    ·rw [if_neg c41] at H
     have c41b0 : (t425 == t411) = false := beq_eq_false_iff_ne.mpr c41
     have c41b1 : (t425 != t411) = true := bne_iff_ne.mpr c41
     (first | rw [c41b0] | (simp only [i64_w, i32_w]; rw [c41b0]) | skip)
     have H' := zA H
     clear H
     obtain ⟨Ao48, co48, eo48⟩ := Kd.R_slice HO424.out
     subst eo48
     obtain ⟨Ao49, co49, eo49⟩ := Kd.R_slice HO410.out
     subst eo49
     go_wp2_with (first | ((with_reducible refine gate_callee (f := 23) rfl ?_); refine goesL_ (some 49) rfl rfl Try.func23 (by kernel_rfl) rfl #[.slice Ao48 t422.length co48, .slice Ao49 t408.length co49] rfl (by (try simp only [List.map_toArray, List.map_cons, List.map_nil]); first | done | rfl | (simp only [List.length_drop, List.length_take]; rfl)) ?_; (with_reducible refine (laws_eqPointS.calls k _ _ t422 _ _ t408 true _ ?side1 ?side2 ?side3 ?side4 A39.out).mono ?_); (case side1 => repeat (first | exact (zK HO424.out).2.2 | (with_reducible refine zI ?_ _) | (with_reducible refine zH ?_ _) | (with_reducible refine zJ ?_))); (case side2 => exact (zK HO424.out).2.1); (case side3 => repeat (first | exact (zK HO410.out).2.2 | (with_reducible refine zI ?_ _) | (with_reducible refine zH ?_ _) | (with_reducible refine zJ ?_))); (case side4 => exact (zK HO410.out).2.1); rintro e w50 ⟨rfl, hb⟩; refine ⟨_, rfl, ?_⟩; have n0_ := zA (zL (bC_ HO405) hb); have n1_ := zA (zL (bC_ HO410) hb); have n2_ := zA (zL (bC_ HO414) hb); have n3_ := zA (zL (bC_ HO418) hb); have n4_ := zA (zL (bC_ HO424) hb); have n5_ := zA (zL (bC_ HO428) hb); have n6_ := zA (zU (g := gb399) (o := .cells #[.int .i64 a0_0, .slice A0_1 l0_1.length c0_1] 39 (0, 0)) (bA_ BK399) hb); have n7_ := zA (zU (g := gb400) (o := .cells #[.int .i64 a2_0, .int .i64 a2_1] 53 (0, 0)) (bA_ BK400) hb); have n8_ := zA (zU (g := gb419) (o := .cells #[.int .i64 t415, .slice Ao34 t416.length co34] 25 (0, 0)) (bA_ BK419) hb); have n9_ := zA (below_step (bB_ HB) hb); clear HO405; clear HO410; clear HO414; clear HO418; clear HO424; clear HO428; clear BK399; clear BK400; clear BK419; clear HB; have HO405 := n0_; have HO410 := n1_; have HO414 := n2_; have HO418 := n3_; have HO424 := n4_; have HO428 := n5_; have BK399 := n6_; have BK400 := n7_; have BK419 := n8_; have HB := n9_; clear n0_ n1_ n2_ n3_ n4_ n5_ n6_ n7_ n8_ n9_; (try clear hb); (try clear hb2); (try clear hk); (try clear hi)))
     go_meet
     case rel => exact ⟨_, (true), (by first | rfl | (simp; done) | (simp [*]; done)), H', ⟨by first | omega | exact Nat.le_refl _⟩, ⟨by (with_reducible repeat (first | apply zF | apply zE | apply zG)); exact Kd.R_mono HO410.out (fun _ hk => hk.2)⟩, ⟨by (with_reducible repeat (first | apply zF | apply zE | apply zG)); exact Kd.R_mono HO414.out (fun _ hk => hk.2)⟩, ⟨by (with_reducible repeat (first | apply zF | apply zE | apply zG)); exact Kd.R_mono HO424.out (fun _ hk => hk.2)⟩, ⟨by (with_reducible repeat (first | apply zF | apply zE | apply zG)); exact Kd.R_mono HO428.out (fun _ hk => hk.2)⟩, ⟨by (with_reducible repeat (first | apply zF | apply zE | apply zG)); exact Kd.R_mono HO418.out (fun _ hk => trivial)⟩, ⟨bA_ BK399⟩, ⟨bA_ BK400⟩, ⟨bA_ BK419⟩, ⟨bB_ HB⟩⟩
   ·replace c40 := Bool.eq_false_iff.mpr c40
    subst c40
    have H1 : (laws_FnExactSketchMove.j0 k a1 t408 t411 t412 t422 t425 t426 true a0_0 l0_1 a2_0 a2_1 t415 t416) = some r := by rw [if_neg (show ¬ (false = true) by decide)] at H; exact H
    clear H
    have H := H1
    clear H1
    have H' := zA H
    clear H
    obtain ⟨Ao51, co51, eo51⟩ := Kd.R_slice HO424.out
    subst eo51
    obtain ⟨Ao52, co52, eo52⟩ := Kd.R_slice HO410.out
    subst eo52
    go_wp2_with (first | ((with_reducible refine gate_callee (f := 23) rfl ?_); refine goesL_ (some 49) rfl rfl Try.func23 (by kernel_rfl) rfl #[.slice Ao51 t422.length co51, .slice Ao52 t408.length co52] rfl (by (try simp only [List.map_toArray, List.map_cons, List.map_nil]); first | done | rfl | (simp only [List.length_drop, List.length_take]; rfl)) ?_; (with_reducible refine (laws_eqPointS.calls k _ _ t422 _ _ t408 false _ ?side1 ?side2 ?side3 ?side4 A39.out).mono ?_); (case side1 => repeat (first | exact (zK HO424.out).2.2 | (with_reducible refine zI ?_ _) | (with_reducible refine zH ?_ _) | (with_reducible refine zJ ?_))); (case side2 => exact (zK HO424.out).2.1); (case side3 => repeat (first | exact (zK HO410.out).2.2 | (with_reducible refine zI ?_ _) | (with_reducible refine zH ?_ _) | (with_reducible refine zJ ?_))); (case side4 => exact (zK HO410.out).2.1); rintro e w53 ⟨rfl, hb⟩; refine ⟨_, rfl, ?_⟩; have n0_ := zA (zL (bC_ HO405) hb); have n1_ := zA (zL (bC_ HO410) hb); have n2_ := zA (zL (bC_ HO414) hb); have n3_ := zA (zL (bC_ HO418) hb); have n4_ := zA (zL (bC_ HO424) hb); have n5_ := zA (zL (bC_ HO428) hb); have n6_ := zA (zU (g := gb399) (o := .cells #[.int .i64 a0_0, .slice A0_1 l0_1.length c0_1] 39 (0, 0)) (bA_ BK399) hb); have n7_ := zA (zU (g := gb400) (o := .cells #[.int .i64 a2_0, .int .i64 a2_1] 53 (0, 0)) (bA_ BK400) hb); have n8_ := zA (zU (g := gb419) (o := .cells #[.int .i64 t415, .slice Ao34 t416.length co34] 25 (0, 0)) (bA_ BK419) hb); have n9_ := zA (below_step (bB_ HB) hb); clear HO405; clear HO410; clear HO414; clear HO418; clear HO424; clear HO428; clear BK399; clear BK400; clear BK419; clear HB; have HO405 := n0_; have HO410 := n1_; have HO414 := n2_; have HO418 := n3_; have HO424 := n4_; have HO428 := n5_; have BK399 := n6_; have BK400 := n7_; have BK419 := n8_; have HB := n9_; clear n0_ n1_ n2_ n3_ n4_ n5_ n6_ n7_ n8_ n9_; (try clear hb); (try clear hb2); (try clear hk); (try clear hi)))
    go_meet
    case rel => exact ⟨_, (true), (by first | rfl | (simp; done) | (simp [*]; done)), H', ⟨by first | omega | exact Nat.le_refl _⟩, ⟨by (with_reducible repeat (first | apply zF | apply zE | apply zG)); exact Kd.R_mono HO410.out (fun _ hk => hk.2)⟩, ⟨by (with_reducible repeat (first | apply zF | apply zE | apply zG)); exact Kd.R_mono HO414.out (fun _ hk => hk.2)⟩, ⟨by (with_reducible repeat (first | apply zF | apply zE | apply zG)); exact Kd.R_mono HO424.out (fun _ hk => hk.2)⟩, ⟨by (with_reducible repeat (first | apply zF | apply zE | apply zG)); exact Kd.R_mono HO428.out (fun _ hk => hk.2)⟩, ⟨by (with_reducible repeat (first | apply zF | apply zE | apply zG)); exact Kd.R_mono HO418.out (fun _ hk => trivial)⟩, ⟨bA_ BK399⟩, ⟨bA_ BK400⟩, ⟨bA_ BK419⟩, ⟨bB_ HB⟩⟩
  case rest =>
   clear HC17
   try clear c1
   try clear c2
   try clear p2
   try clear c3
   try clear c4
   try clear c5
   try clear c5b0
   try clear c7
   try clear c8
   try clear c15
   try clear c17
   try clear c20
   try clear c21
   try clear c22
   try clear c23
   try clear c30
   try clear c31
   try clear c32
   try clear c40
   try clear c41
   try clear c41b0
   try clear c41b1
   try clear hcz21_0
   try clear hcz21_1
   try clear hcz28_0
   try clear hcz28_1
   try clear hcz33_0
   try clear hcz33_1
   try clear hcz9_0
   try clear hcz9_1
   try clear hfz21_0
   try clear hfz21_1
   try clear hfz28_0
   try clear hfz28_1
   try clear hfz33_0
   try clear hfz33_1
   try clear hfz9_0
   try clear hfz9_1
   obtain ⟨kq, x61_16, rfl, HA, HJ16, HO_8, HO_10, HO_12, HO_14, HO_420001, BK399, BK400, BK419, HB⟩ := hcut
   cases kq with
   | zero => exact absurd HA.out (by simp [laws_FnExactSketchMove.j0])
   | succ kj16 =>
    have H := HA.out
    clear HA
    simp only [laws_FnExactSketchMove.j0] at H
    by_cases c54 : x61_16 = true
    ·subst c54
     have H1 : (some false) = some r := by rw [if_pos rfl] at H; exact H
     clear H
     have H := H1
     clear H1
     obtain rfl := Option.some.inj H
     go_wp2
     go_ret
     exact ⟨by first | rfl | (simp [errW_none, errW_some] <;> rfl) | (simp [*, errW_none, errW_some] <;> rfl), bB_ HB⟩
    ·replace c54 := Bool.eq_false_iff.mpr c54
     subst c54
     have H1 : ((laws_toSketch.f kj16 a0_0 l0_1).bind fun bt431 => ((laws_eqSketch.f kj16 t415 t416 bt431.1 bt431.2).bind fun t435 => (if t435 = true then ((laws_markSketch.f kj16 t415 t416 1).bind fun bt436 => (if bt436.1 < 0 then (laws_FnExactSketchMove.j1 kj16 a1 t408 t411 t412 t422 t426 true a0_0 l0_1 a2_0 a2_1) else ((laws_eqPointS.f kj16 t422 t408).bind fun t438 => (if t438 = true then (if t425 = t411 then ((laws_eqIntS.f kj16 t426 t412).bind fun t439 => (laws_FnExactSketchMove.j1 kj16 a1 t408 t411 t412 t422 t426 (!t439) a0_0 l0_1 a2_0 a2_1)) else (laws_FnExactSketchMove.j1 kj16 a1 t408 t411 t412 t422 t426 true a0_0 l0_1 a2_0 a2_1)) else (laws_FnExactSketchMove.j1 kj16 a1 t408 t411 t412 t422 t426 true a0_0 l0_1 a2_0 a2_1))))) else (some false)))) = some r := by rw [if_neg (show ¬ (false = true) by decide)] at H; exact H
     clear H
     have H := H1
     clear H1
     replace H := Option.bind_eq_some_iff.mp H
     obtain ⟨⟨t431, t432⟩, A550, H⟩ := H
     replace H : ((laws_eqSketch.f kj16 t415 t416 t431 t432).bind fun t435 => (if t435 = true then ((laws_markSketch.f kj16 t415 t416 1).bind fun bt436 => (if bt436.1 < 0 then (laws_FnExactSketchMove.j1 kj16 a1 t408 t411 t412 t422 t426 true a0_0 l0_1 a2_0 a2_1) else ((laws_eqPointS.f kj16 t422 t408).bind fun t438 => (if t438 = true then (if t425 = t411 then ((laws_eqIntS.f kj16 t426 t412).bind fun t439 => (laws_FnExactSketchMove.j1 kj16 a1 t408 t411 t412 t422 t426 (!t439) a0_0 l0_1 a2_0 a2_1)) else (laws_FnExactSketchMove.j1 kj16 a1 t408 t411 t412 t422 t426 true a0_0 l0_1 a2_0 a2_1)) else (laws_FnExactSketchMove.j1 kj16 a1 t408 t411 t412 t422 t426 true a0_0 l0_1 a2_0 a2_1))))) else (some false))) = some r := H
     have A55 := zA A550
     clear A550
     replace H := Option.bind_eq_some_iff.mp H
     obtain ⟨t435, A560, H⟩ := H
     replace H : (if t435 = true then ((laws_markSketch.f kj16 t415 t416 1).bind fun bt436 => (if bt436.1 < 0 then (laws_FnExactSketchMove.j1 kj16 a1 t408 t411 t412 t422 t426 true a0_0 l0_1 a2_0 a2_1) else ((laws_eqPointS.f kj16 t422 t408).bind fun t438 => (if t438 = true then (if t425 = t411 then ((laws_eqIntS.f kj16 t426 t412).bind fun t439 => (laws_FnExactSketchMove.j1 kj16 a1 t408 t411 t412 t422 t426 (!t439) a0_0 l0_1 a2_0 a2_1)) else (laws_FnExactSketchMove.j1 kj16 a1 t408 t411 t412 t422 t426 true a0_0 l0_1 a2_0 a2_1)) else (laws_FnExactSketchMove.j1 kj16 a1 t408 t411 t412 t422 t426 true a0_0 l0_1 a2_0 a2_1))))) else (some false)) = some r := H
     have A56 := zA A560
     clear A560
     by_cases c57 : t435 = true
     ·subst c57
      have H1 : ((laws_markSketch.f kj16 t415 t416 1).bind fun bt436 => (if bt436.1 < 0 then (laws_FnExactSketchMove.j1 kj16 a1 t408 t411 t412 t422 t426 true a0_0 l0_1 a2_0 a2_1) else ((laws_eqPointS.f kj16 t422 t408).bind fun t438 => (if t438 = true then (if t425 = t411 then ((laws_eqIntS.f kj16 t426 t412).bind fun t439 => (laws_FnExactSketchMove.j1 kj16 a1 t408 t411 t412 t422 t426 (!t439) a0_0 l0_1 a2_0 a2_1)) else (laws_FnExactSketchMove.j1 kj16 a1 t408 t411 t412 t422 t426 true a0_0 l0_1 a2_0 a2_1)) else (laws_FnExactSketchMove.j1 kj16 a1 t408 t411 t412 t422 t426 true a0_0 l0_1 a2_0 a2_1))))) = some r := by rw [if_pos rfl] at H; exact H
      clear H
      have H := H1
      clear H1
      replace H := Option.bind_eq_some_iff.mp H
      obtain ⟨⟨t436, t437⟩, A580, H⟩ := H
      replace H : (if t436 < 0 then (laws_FnExactSketchMove.j1 kj16 a1 t408 t411 t412 t422 t426 true a0_0 l0_1 a2_0 a2_1) else ((laws_eqPointS.f kj16 t422 t408).bind fun t438 => (if t438 = true then (if t425 = t411 then ((laws_eqIntS.f kj16 t426 t412).bind fun t439 => (laws_FnExactSketchMove.j1 kj16 a1 t408 t411 t412 t422 t426 (!t439) a0_0 l0_1 a2_0 a2_1)) else (laws_FnExactSketchMove.j1 kj16 a1 t408 t411 t412 t422 t426 true a0_0 l0_1 a2_0 a2_1)) else (laws_FnExactSketchMove.j1 kj16 a1 t408 t411 t412 t422 t426 true a0_0 l0_1 a2_0 a2_1)))) = some r := H
      have A58 := zA A580
      clear A580
      have HC59 := zA H
      clear H
      try go_wp2
      have n0_ := zA (zG HO_8.out)
      have n1_ := zA (zG HO_10.out)
      have n2_ := zA (zG HO_12.out)
      have n3_ := zA (zG HO_14.out)
      have n4_ := zA (zG HO_420001.out)
      have n5_ := zA (zN BK399.out)
      have n6_ := zA (zN BK400.out)
      have n7_ := zA (zN BK419.out)
      have n8_ := zA (zQ HB.out)
      clear HO_8
      clear HO_10
      clear HO_12
      clear HO_14
      clear HO_420001
      clear BK399
      clear BK400
      clear BK419
      clear HB
      have HO_8 := n0_
      have HO_10 := n1_
      have HO_12 := n2_
      have HO_14 := n3_
      have HO_420001 := n4_
      have BK399 := n5_
      have BK400 := n6_
      have BK419 := n7_
      have HB := n8_
      clear n0_ n1_ n2_ n3_ n4_ n5_ n6_ n7_ n8_
      refine start_ (n := 5) (S := fun w' => w'.cell? ⟨gb419, 0, none⟩ = some (.int .i64 t415) ∧ w'.cell? ⟨gb419, 1, none⟩ = some (.slice Ao34 t416.length co34) ∧ w'.cell? ⟨gb399, 0, none⟩ = some (.int .i64 a0_0) ∧ w'.cell? ⟨gb399, 1, none⟩ = some (.slice A0_1 l0_1.length c0_1)) (ds := []) #[false, false, false, false, false] (by kernel_rfl) rfl rfl ⟨(blk_cell BK419.out 0).trans rfl, (blk_cell BK419.out 1).trans rfl, (blk_cell BK399.out 0).trans rfl, (blk_cell BK399.out 1).trans rfl⟩ (fun hHeld => ?_)
      generalize wc.drew = w60 at HO_8 HO_10 HO_12 HO_14 HO_420001 BK399 BK400 BK419 HB hHeld ⊢
      refine take_ (i := 0) (N := some 62) (v := ?_) (a' := ?_) #[true, false, false, false, false] rfl rfl (by kernel_rfl) (fun _ _ _ h => h) (Or.inl ⟨by rfl, ?_⟩) hHeld ?_ ?_
      rotate_left
      ·rintro w' ⟨s0, s1, s2, s3⟩
       go_simp
       with_reducible rfl
      rotate_left
      ·simp only [Act.put, zB, zC, zD, i64_w, i32_w]
       rfl
      refine take_ (i := 1) (N := some 63) (v := ?_) (a' := ?_) #[true, true, false, false, false] rfl rfl (by kernel_rfl) (fun _ _ _ h => h) (Or.inl ⟨by rfl, ?_⟩) hHeld ?_ ?_
      rotate_left
      ·rintro w' ⟨s0, s1, s2, s3⟩
       go_simp
       with_reducible rfl
      rotate_left
      ·simp only [Act.put, zB, zC, zD, i64_w, i32_w]
       rfl
      refine one_ (i := 2) (N := some 64) #[true, true, true, false, false] rfl rfl (by kernel_rfl) (by decide) (fun K hK => ?_)
      refine goes_ Try.func17 (by kernel_rfl) rfl #[.agg #[.int .i64 a0_0, .slice A0_1 l0_1.length c0_1]] (by rfl) rfl rfl (by (try simp only [List.map_toArray, List.map_cons, List.map_nil]); first | done | rfl | (simp only [List.length_drop, List.length_take]; rfl)) ?_
      with_reducible refine (laws_toSketch.calls kj16 a0_0 _ _ l0_1 t431 t432 _ ?side1 ?side2 A55.out).mono ?_
      (case side1 => repeat (first | exact (Kd.C_below HR0_1.out HB.out) | (with_reducible refine zI ?_ _) | (with_reducible refine zH ?_ _) | (with_reducible refine zJ ?_)))
      (case side2 => exact HC0_1.out)
      rintro e w61 ⟨v433, rfl, ho0, hb⟩
      refine ⟨_, rfl, ?_⟩
      have n0_ := zA (zL (bC_ HO_8) hb)
      have n1_ := zA (zL (bC_ HO_10) hb)
      have n2_ := zA (zL (bC_ HO_12) hb)
      have n3_ := zA (zL (bC_ HO_14) hb)
      have n4_ := zA (Kd.R_elder' (bC_ HO_420001) (Kd.R_base ho0) hb)
      have n5_ := zA (Kd.R_lower (Kd.R_new' ho0 (Kd.R_lt (bC_ HO_420001))) (zT (bB_ HB)))
      have n6_ := zA (zU (g := gb399) (o := .cells #[.int .i64 a0_0, .slice A0_1 l0_1.length c0_1] 39 (0, 0)) (bA_ BK399) hb)
      have n7_ := zA (zU (g := gb400) (o := .cells #[.int .i64 a2_0, .int .i64 a2_1] 53 (0, 0)) (bA_ BK400) hb)
      have n8_ := zA (zU (g := gb419) (o := .cells #[.int .i64 t415, .slice Ao34 t416.length co34] 25 (0, 0)) (bA_ BK419) hb)
      have n9_ := zA (below_step (bB_ HB) hb)
      clear HO_8
      clear HO_10
      clear HO_12
      clear HO_14
      clear HO_420001
      clear BK399
      clear BK400
      clear BK419
      clear HB
      have HO_8 := n0_
      have HO_10 := n1_
      have HO_12 := n2_
      have HO_14 := n3_
      have HO_420001 := n4_
      have HO434 := n5_
      have BK399 := n6_
      have BK400 := n7_
      have BK419 := n8_
      have HB := n9_
      clear n0_ n1_ n2_ n3_ n4_ n5_ n6_ n7_ n8_ n9_
      (try clear hb)
      (try clear hb2)
      (try clear hk)
      (try clear hi)
      (try clear ho0)
      obtain ⟨Ao62, co62, eo62⟩ := Kd.R_slice HO434.out
      (first | subst eo62 | (injection eo62 with f1_ f2_ f3_; have f4_ := f1_.symm; have f5_ := f3_.symm; clear f1_ f2_ f3_; subst f4_; subst f5_))
      refine hK.out _ _ ⟨(blk_cell BK419.out 0).trans rfl, (blk_cell BK419.out 1).trans rfl, (blk_cell BK399.out 0).trans rfl, (blk_cell BK399.out 1).trans rfl⟩ (fun hHeld => ?_)
      clear hK K
      refine norm_ (a' := ?_) ?_ ?_
      rotate_left
      ·show Act.put _ (some 64) _ = _
       simp only [Act.put, zB, zC, zD, i64_w, i32_w]
       rfl
      refine one_ (i := 3) (N := some 65) #[true, true, true, true, false] rfl rfl (by kernel_rfl) (by decide) (fun K hK => ?_)
      refine goes_ Try.func19 (by kernel_rfl) rfl #[.agg #[.int .i64 t415, .slice Ao34 t416.length co34], .agg #[.int .i64 t431, .slice Ao62 t432.length co62]] (by rfl) rfl rfl (by (try simp only [List.map_toArray, List.map_cons, List.map_nil]); first | done | rfl | (simp only [List.length_drop, List.length_take]; rfl)) ?_
      with_reducible refine (laws_eqSketch.calls kj16 t415 _ _ t416 t431 _ _ t432 true _ ?side1 ?side2 ?side3 ?side4 A56.out).mono ?_
      (case side1 => repeat (first | exact (zK HO_420001.out).2.2 | (with_reducible refine zI ?_ _) | (with_reducible refine zH ?_ _) | (with_reducible refine zJ ?_)))
      (case side2 => exact (zK HO_420001.out).2.1)
      (case side3 => repeat (first | exact (zK HO434.out).2.2 | (with_reducible refine zI ?_ _) | (with_reducible refine zH ?_ _) | (with_reducible refine zJ ?_)))
      (case side4 => exact (zK HO434.out).2.1)
      rintro e w63 ⟨rfl, hb⟩
      refine ⟨_, rfl, ?_⟩
      have n0_ := zA (zL (bC_ HO_8) hb)
      have n1_ := zA (zL (bC_ HO_10) hb)
      have n2_ := zA (zL (bC_ HO_12) hb)
      have n3_ := zA (zL (bC_ HO_14) hb)
      have n4_ := zA (zL (bC_ HO_420001) hb)
      have n5_ := zA (zL (bC_ HO434) hb)
      have n6_ := zA (zU (g := gb399) (o := .cells #[.int .i64 a0_0, .slice A0_1 l0_1.length c0_1] 39 (0, 0)) (bA_ BK399) hb)
      have n7_ := zA (zU (g := gb400) (o := .cells #[.int .i64 a2_0, .int .i64 a2_1] 53 (0, 0)) (bA_ BK400) hb)
      have n8_ := zA (zU (g := gb419) (o := .cells #[.int .i64 t415, .slice Ao34 t416.length co34] 25 (0, 0)) (bA_ BK419) hb)
      have n9_ := zA (below_step (bB_ HB) hb)
      clear HO_8
      clear HO_10
      clear HO_12
      clear HO_14
      clear HO_420001
      clear HO434
      clear BK399
      clear BK400
      clear BK419
      clear HB
      have HO_8 := n0_
      have HO_10 := n1_
      have HO_12 := n2_
      have HO_14 := n3_
      have HO_420001 := n4_
      have HO434 := n5_
      have BK399 := n6_
      have BK400 := n7_
      have BK419 := n8_
      have HB := n9_
      clear n0_ n1_ n2_ n3_ n4_ n5_ n6_ n7_ n8_ n9_
      (try clear hb)
      (try clear hb2)
      (try clear hk)
      (try clear hi)
      refine hK.out _ _ ⟨(blk_cell BK419.out 0).trans rfl, (blk_cell BK419.out 1).trans rfl, (blk_cell BK399.out 0).trans rfl, (blk_cell BK399.out 1).trans rfl⟩ (fun hHeld => ?_)
      clear hK K
      refine norm_ (a' := ?_) ?_ ?_
      rotate_left
      ·show Act.put _ (some 65) _ = _
       simp only [Act.put, zB, zC, zD, i64_w, i32_w]
       rfl
      refine pure_ (i := 4) (N := some 66) (v := ?_) (a' := ?_) #[true, true, true, true, true] rfl rfl (by kernel_rfl) (fun _ _ _ h => h) (Or.inl ⟨by rfl, ?_⟩) ?_ ?_
      rotate_left
      ·intro w'
       go_simp
       with_reducible rfl
      rotate_left
      ·simp only [Act.put, zB, zC, zD, i64_w, i32_w]
       rfl
      refine done_ (by kernel_rfl) ?_
      have hnb64 := NB419_399.out
      have hnc64 := NB399_419.out
      have hnb65 := NB419_400.out
      have hnc65 := NB400_419.out
      have hcz66_0 : w63.cell? ⟨gb419, 0, none⟩ = some (.int .i64 t415) := (blk_cell BK419.out 0).trans rfl
      have hcz66_1 : w63.cell? ⟨gb419, 1, none⟩ = some (.slice Ao34 t416.length co34) := (blk_cell BK419.out 1).trans rfl
      have hfz66_0 := blk_frozen BK419.out 0
      have hfz66_1 := blk_frozen BK419.out 1
      go_upto_region 14 with (first | ((with_reducible refine gate_callee (f := 25) rfl ?_); refine goesL_ (some 69) rfl rfl Try.func25 (by kernel_rfl) rfl #[.agg #[.int .i64 t415, .slice Ao34 t416.length co34], .int .i64 1] rfl (by (try simp only [List.map_toArray, List.map_cons, List.map_nil]); first | done | rfl | (simp only [List.length_drop, List.length_take]; rfl)) ?_; (with_reducible refine (laws_markSketch.calls kj16 t415 (fun k_ => some k_ = (.slice Ao34 t416.length co34 : Value).ownBlock) (.slice Ao34 t416.length co34) t416 1 t436 t437 w _ ?side1 ?side2 A58.out).mono ?_); (case side1 => repeat (first | (with_reducible first | exact HB.out | apply zR | apply zP | apply zQ | refine zS ?_ GE399.out | refine zS ?_ GE400.out | refine zS ?_ GE419.out) | exact HB.out)); (case side2 => exact Kd.R_tight rfl HO_420001.out); rintro e w67 ⟨rfl, hy0, hb, hkp⟩; refine ⟨_, rfl, ?_⟩; have n0_ := zA (Kd.R_mono (ok' := fun k_ => some k_ ≠ (v423 : Value).ownBlock) (Kd.R_keptB ((Kd.R_apart' HO_8.out (Kd.R_typed HO_420001.out) (by decide))) hkp (fun k_ hk_ hs_ => (hk_.2) hs_)) (fun k_ hk_ => hk_.1.1)); have n1_ := zA (Kd.R_mono (ok' := fun k_ => some k_ ≠ (v427 : Value).ownBlock) (Kd.R_keptB ((Kd.R_apart' HO_10.out (Kd.R_typed HO_420001.out) (by decide))) hkp (fun k_ hk_ hs_ => (hk_.2) hs_)) (fun k_ hk_ => hk_.1.1)); have n2_ := zA (Kd.R_mono (ok' := fun k_ => some k_ ≠ (v409 : Value).ownBlock) (Kd.R_keptB ((Kd.R_apart' HO_12.out (Kd.R_typed HO_420001.out) (by decide))) hkp (fun k_ hk_ hs_ => (hk_.2) hs_)) (fun k_ hk_ => hk_.1.1)); have n3_ := zA (Kd.R_mono (ok' := fun k_ => some k_ ≠ (v413 : Value).ownBlock) (Kd.R_keptB ((Kd.R_apart' HO_14.out (Kd.R_typed HO_420001.out) (by decide))) hkp (fun k_ hk_ hs_ => (hk_.2) hs_)) (fun k_ hk_ => hk_.1.1)); have n4_ := zA (Kd.R_reok rfl hy0 (fun k_ e_ => HO_420001.out.1 k_ e_)); have n5_ := zA (blk_kept (bA_ BK399) hkp (fun hs_ => (fun e_ => (Kd.R_ne HO_420001.out BK399.out (by decide)) e_) hs_)); have n6_ := zA (blk_kept (bA_ BK400) hkp (fun hs_ => (fun e_ => (Kd.R_ne HO_420001.out BK400.out (by decide)) e_) hs_)); have n7_ := zA (blk_kept (bA_ BK419) hkp (fun hs_ => (fun e_ => (Kd.R_ne HO_420001.out BK419.out (by decide)) e_) hs_)); have n8_ := zA (Kd.R_mono (ok' := fun k_ => some k_ ≠ (.slice Ao34 t416.length co34 : Value).ownBlock) (Kd.R_keptB (HO434.out) hkp (fun k_ hk_ hs_ => (hk_.2) hs_)) (fun k_ hk_ => hk_.1.2)); have n9_ := zA (hb); clear HO_8; clear HO_10; clear HO_12; clear HO_14; clear HO_420001; clear BK399; clear BK400; clear BK419; clear HO434; clear HB; have HO_8 := n0_; have HO_10 := n1_; have HO_12 := n2_; have HO_14 := n3_; have HO_420001 := n4_; have BK399 := n5_; have BK400 := n6_; have BK419 := n7_; have HO434 := n8_; have HB := n9_; clear n0_ n1_ n2_ n3_ n4_ n5_ n6_ n7_ n8_ n9_; (try clear hb); (try clear hkp); (try clear hy0)))
      (try simp only [Act.put, zB, zC, zD])
      go_cut [88] (fun v88 wc => ∃ (kq : Nat) (x88_58 : Bool), v88 = .bool x88_58 ∧ Aside0 (laws_FnExactSketchMove.j1 kq a1 t408 t411 t412 t422 t426 x88_58 a0_0 l0_1 a2_0 a2_1 = some r) ∧ Aside0 (kq ≤ kj16) ∧ Aside0 (Kd.R k48 48 wc w.heap.size (fun k_ => some k_ ≠ (v423 : Value).ownBlock) v409 t408) ∧ Aside0 (Kd.R (Kd.int .i64) 3 wc w.heap.size (fun k_ => some k_ ≠ (v427 : Value).ownBlock) v413 t412) ∧ Aside0 (Kd.R k48 48 wc w.heap.size (fun k_ => some k_ ≠ (v409 : Value).ownBlock) v423 t422) ∧ Aside0 (Kd.R (Kd.int .i64) 3 wc w.heap.size (fun k_ => some k_ ≠ (v413 : Value).ownBlock) v427 t426) ∧ Aside0 (Kd.R k35 35 wc w.heap.size (fun _ => True) (.slice Ao34 t416.length co34) t437) ∧ Aside0 (wc.heap[gb399]? = some (.cells #[.int .i64 a0_0, (.slice A0_1 l0_1.length c0_1)] 39 (0, 0))) ∧ Aside0 (wc.heap[gb400]? = some (.cells #[.int .i64 a2_0, .int .i64 a2_1] 53 (0, 0))) ∧ Aside0 (wc.heap[gb419]? = some (.cells #[.int .i64 t415, (.slice Ao34 t416.length co34)] 25 (0, 0))) ∧ Aside0 (Below w.heap.size w wc))
      case first =>
       have H := HC59.out
       clear HC59
       by_cases c68 : t436 < 0
       ·rw [if_pos c68] at H
        have c68b0 : decide (t436 < 0) = true := decide_eq_true c68
        clear c68
        (first | rw [c68b0] | (simp only [i64_w, i32_w]; rw [c68b0]) | skip)
        have H' := zA H
        clear H
        go_wp2
        go_meet
        case rel => exact ⟨_, (true), (by first | rfl | (simp; done) | (simp [*]; done)), H', ⟨by have := HJ16.out; first | omega | exact Nat.le_refl _⟩, ⟨bC_ HO_8⟩, ⟨bC_ HO_10⟩, ⟨bC_ HO_12⟩, ⟨bC_ HO_14⟩, ⟨by (with_reducible repeat (first | apply zF | apply zE | apply zG)); exact Kd.R_mono HO_420001.out (fun _ hk => trivial)⟩, ⟨bA_ BK399⟩, ⟨bA_ BK400⟩, ⟨bA_ BK419⟩, ⟨bB_ HB⟩⟩
       ·rw [if_neg c68] at H
        have c68b0 : decide (t436 < 0) = false := decide_eq_false c68
        clear c68
        (first | rw [c68b0] | (simp only [i64_w, i32_w]; rw [c68b0]) | skip)
        replace H := Option.bind_eq_some_iff.mp H
        obtain ⟨t438, A690, H⟩ := H
        replace H : (if t438 = true then (if t425 = t411 then ((laws_eqIntS.f kj16 t426 t412).bind fun t439 => (laws_FnExactSketchMove.j1 kj16 a1 t408 t411 t412 t422 t426 (!t439) a0_0 l0_1 a2_0 a2_1)) else (laws_FnExactSketchMove.j1 kj16 a1 t408 t411 t412 t422 t426 true a0_0 l0_1 a2_0 a2_1)) else (laws_FnExactSketchMove.j1 kj16 a1 t408 t411 t412 t422 t426 true a0_0 l0_1 a2_0 a2_1)) = some r := H
        have A69 := zA A690
        clear A690
        by_cases c70 : t438 = true
        ·subst c70
         have H1 : (if t425 = t411 then ((laws_eqIntS.f kj16 t426 t412).bind fun t439 => (laws_FnExactSketchMove.j1 kj16 a1 t408 t411 t412 t422 t426 (!t439) a0_0 l0_1 a2_0 a2_1)) else (laws_FnExactSketchMove.j1 kj16 a1 t408 t411 t412 t422 t426 true a0_0 l0_1 a2_0 a2_1)) = some r := by rw [if_pos rfl] at H; exact H
         clear H
         have H := H1
         clear H1
         by_cases c71 : t425 = t411
         ·rw [if_pos c71] at H
          have c71b0 : (t425 == t411) = true := beq_iff_eq.mpr c71
          have c71b1 : (t425 != t411) = false := bne_eq_false_iff_eq.mpr c71
          clear c71
          replace H := Option.bind_eq_some_iff.mp H
          obtain ⟨t439, A720, H⟩ := H
          replace H : (laws_FnExactSketchMove.j1 kj16 a1 t408 t411 t412 t422 t426 (!t439) a0_0 l0_1 a2_0 a2_1) = some r := H
          have A72 := zA A720
          clear A720
          have H' := zA H
          clear H
          obtain ⟨Ao73, co73, eo73⟩ := Kd.R_slice HO_12.out
          subst eo73
          obtain ⟨Ao74, co74, eo74⟩ := Kd.R_slice HO_8.out
          subst eo74
          go_wp2_with (first | (go_at_call 23; (with_reducible refine (laws_eqPointS.calls kj16 _ _ t422 _ _ t408 true _ ?side1 ?side2 ?side3 ?side4 A69.out).mono ?_); (case side1 => repeat (first | exact (zK HO_12.out).2.2 | (with_reducible refine zI ?_ _) | (with_reducible refine zH ?_ _) | (with_reducible refine zJ ?_))); (case side2 => exact (zK HO_12.out).2.1); (case side3 => repeat (first | exact (zK HO_8.out).2.2 | (with_reducible refine zI ?_ _) | (with_reducible refine zH ?_ _) | (with_reducible refine zJ ?_))); (case side4 => exact (zK HO_8.out).2.1); rintro e w75 ⟨rfl, hb⟩; have n0_ := zA (zL (bC_ HO_8) hb); have n1_ := zA (zL (bC_ HO_10) hb); have n2_ := zA (zL (bC_ HO_12) hb); have n3_ := zA (zL (bC_ HO_14) hb); have n4_ := zA (zL (bC_ HO_420001) hb); have n5_ := zA (zL (bC_ HO434) hb); have n6_ := zA (zU (g := gb399) (o := .cells #[.int .i64 a0_0, .slice A0_1 l0_1.length c0_1] 39 (0, 0)) (bA_ BK399) hb); have n7_ := zA (zU (g := gb400) (o := .cells #[.int .i64 a2_0, .int .i64 a2_1] 53 (0, 0)) (bA_ BK400) hb); have n8_ := zA (zU (g := gb419) (o := .cells #[.int .i64 t415, .slice Ao34 t416.length co34] 25 (0, 0)) (bA_ BK419) hb); have n9_ := zA (below_step (bB_ HB) hb); clear HO_8; clear HO_10; clear HO_12; clear HO_14; clear HO_420001; clear HO434; clear BK399; clear BK400; clear BK419; clear HB; have HO_8 := n0_; have HO_10 := n1_; have HO_12 := n2_; have HO_14 := n3_; have HO_420001 := n4_; have HO434 := n5_; have BK399 := n6_; have BK400 := n7_; have BK419 := n8_; have HB := n9_; clear n0_ n1_ n2_ n3_ n4_ n5_ n6_ n7_ n8_ n9_; (try clear hb); (try clear hb2); (try clear hk); (try clear hi); obtain ⟨Ao76, co76, eo76⟩ := Kd.R_slice HO_14.out; subst eo76; obtain ⟨Ao77, co77, eo77⟩ := Kd.R_slice HO_10.out; subst eo77) | (go_at_call 24; (with_reducible refine (laws_eqIntS.calls kj16 _ _ t426 _ _ t412 t439 _ ?side1 ?side2 ?side3 ?side4 A72.out).mono ?_); (case side1 => repeat (first | exact (zK HO_14.out).2.2 | (with_reducible refine zI ?_ _) | (with_reducible refine zH ?_ _) | (with_reducible refine zJ ?_))); (case side2 => exact (zK HO_14.out).2.1); (case side3 => repeat (first | exact (zK HO_10.out).2.2 | (with_reducible refine zI ?_ _) | (with_reducible refine zH ?_ _) | (with_reducible refine zJ ?_))); (case side4 => exact (zK HO_10.out).2.1); rintro e w' ⟨rfl, ⟨nd, rfl⟩⟩))
          go_meet
          case rel => exact ⟨_, (!t439), (by first | rfl | (simp; done) | (simp [*]; done)), H', ⟨by have := HJ16.out; first | omega | exact Nat.le_refl _⟩, ⟨bC_ HO_8⟩, ⟨bC_ HO_10⟩, ⟨bC_ HO_12⟩, ⟨bC_ HO_14⟩, ⟨by (with_reducible repeat (first | apply zF | apply zE | apply zG)); exact Kd.R_mono HO_420001.out (fun _ hk => trivial)⟩, ⟨bA_ BK399⟩, ⟨bA_ BK400⟩, ⟨bA_ BK419⟩, ⟨bB_ HB⟩⟩
         ·rw [if_neg c71] at H
          have c71b0 : (t425 == t411) = false := beq_eq_false_iff_ne.mpr c71
          have c71b1 : (t425 != t411) = true := bne_iff_ne.mpr c71
          have H' := zA H
          clear H
          obtain ⟨Ao78, co78, eo78⟩ := Kd.R_slice HO_12.out
          subst eo78
          obtain ⟨Ao79, co79, eo79⟩ := Kd.R_slice HO_8.out
          subst eo79
          go_wp2_with (first | (go_at_call 23; (with_reducible refine (laws_eqPointS.calls kj16 _ _ t422 _ _ t408 true _ ?side1 ?side2 ?side3 ?side4 A69.out).mono ?_); (case side1 => repeat (first | exact (zK HO_12.out).2.2 | (with_reducible refine zI ?_ _) | (with_reducible refine zH ?_ _) | (with_reducible refine zJ ?_))); (case side2 => exact (zK HO_12.out).2.1); (case side3 => repeat (first | exact (zK HO_8.out).2.2 | (with_reducible refine zI ?_ _) | (with_reducible refine zH ?_ _) | (with_reducible refine zJ ?_))); (case side4 => exact (zK HO_8.out).2.1); rintro e w80 ⟨rfl, hb⟩; have n0_ := zA (zL (bC_ HO_8) hb); have n1_ := zA (zL (bC_ HO_10) hb); have n2_ := zA (zL (bC_ HO_12) hb); have n3_ := zA (zL (bC_ HO_14) hb); have n4_ := zA (zL (bC_ HO_420001) hb); have n5_ := zA (zL (bC_ HO434) hb); have n6_ := zA (zU (g := gb399) (o := .cells #[.int .i64 a0_0, .slice A0_1 l0_1.length c0_1] 39 (0, 0)) (bA_ BK399) hb); have n7_ := zA (zU (g := gb400) (o := .cells #[.int .i64 a2_0, .int .i64 a2_1] 53 (0, 0)) (bA_ BK400) hb); have n8_ := zA (zU (g := gb419) (o := .cells #[.int .i64 t415, .slice Ao34 t416.length co34] 25 (0, 0)) (bA_ BK419) hb); have n9_ := zA (below_step (bB_ HB) hb); clear HO_8; clear HO_10; clear HO_12; clear HO_14; clear HO_420001; clear HO434; clear BK399; clear BK400; clear BK419; clear HB; have HO_8 := n0_; have HO_10 := n1_; have HO_12 := n2_; have HO_14 := n3_; have HO_420001 := n4_; have HO434 := n5_; have BK399 := n6_; have BK400 := n7_; have BK419 := n8_; have HB := n9_; clear n0_ n1_ n2_ n3_ n4_ n5_ n6_ n7_ n8_ n9_; (try clear hb); (try clear hb2); (try clear hk); (try clear hi)))
          go_meet
          case rel => exact ⟨_, (true), (by first | rfl | (simp; done) | (simp [*]; done)), H', ⟨by have := HJ16.out; first | omega | exact Nat.le_refl _⟩, ⟨bC_ HO_8⟩, ⟨bC_ HO_10⟩, ⟨bC_ HO_12⟩, ⟨bC_ HO_14⟩, ⟨by (with_reducible repeat (first | apply zF | apply zE | apply zG)); exact Kd.R_mono HO_420001.out (fun _ hk => trivial)⟩, ⟨bA_ BK399⟩, ⟨bA_ BK400⟩, ⟨bA_ BK419⟩, ⟨bB_ HB⟩⟩
        ·replace c70 := Bool.eq_false_iff.mpr c70
         subst c70
         have H1 : (laws_FnExactSketchMove.j1 kj16 a1 t408 t411 t412 t422 t426 true a0_0 l0_1 a2_0 a2_1) = some r := by rw [if_neg (show ¬ (false = true) by decide)] at H; exact H
         clear H
         have H := H1
         clear H1
         have H' := zA H
         clear H
         obtain ⟨Ao81, co81, eo81⟩ := Kd.R_slice HO_12.out
         subst eo81
         obtain ⟨Ao82, co82, eo82⟩ := Kd.R_slice HO_8.out
         subst eo82
         go_wp2_with (first | (go_at_call 23; (with_reducible refine (laws_eqPointS.calls kj16 _ _ t422 _ _ t408 false _ ?side1 ?side2 ?side3 ?side4 A69.out).mono ?_); (case side1 => repeat (first | exact (zK HO_12.out).2.2 | (with_reducible refine zI ?_ _) | (with_reducible refine zH ?_ _) | (with_reducible refine zJ ?_))); (case side2 => exact (zK HO_12.out).2.1); (case side3 => repeat (first | exact (zK HO_8.out).2.2 | (with_reducible refine zI ?_ _) | (with_reducible refine zH ?_ _) | (with_reducible refine zJ ?_))); (case side4 => exact (zK HO_8.out).2.1); rintro e w83 ⟨rfl, hb⟩; have n0_ := zA (zL (bC_ HO_8) hb); have n1_ := zA (zL (bC_ HO_10) hb); have n2_ := zA (zL (bC_ HO_12) hb); have n3_ := zA (zL (bC_ HO_14) hb); have n4_ := zA (zL (bC_ HO_420001) hb); have n5_ := zA (zL (bC_ HO434) hb); have n6_ := zA (zU (g := gb399) (o := .cells #[.int .i64 a0_0, .slice A0_1 l0_1.length c0_1] 39 (0, 0)) (bA_ BK399) hb); have n7_ := zA (zU (g := gb400) (o := .cells #[.int .i64 a2_0, .int .i64 a2_1] 53 (0, 0)) (bA_ BK400) hb); have n8_ := zA (zU (g := gb419) (o := .cells #[.int .i64 t415, .slice Ao34 t416.length co34] 25 (0, 0)) (bA_ BK419) hb); have n9_ := zA (below_step (bB_ HB) hb); clear HO_8; clear HO_10; clear HO_12; clear HO_14; clear HO_420001; clear HO434; clear BK399; clear BK400; clear BK419; clear HB; have HO_8 := n0_; have HO_10 := n1_; have HO_12 := n2_; have HO_14 := n3_; have HO_420001 := n4_; have HO434 := n5_; have BK399 := n6_; have BK400 := n7_; have BK419 := n8_; have HB := n9_; clear n0_ n1_ n2_ n3_ n4_ n5_ n6_ n7_ n8_ n9_; (try clear hb); (try clear hb2); (try clear hk); (try clear hi)))
         go_meet
         case rel => exact ⟨_, (true), (by first | rfl | (simp; done) | (simp [*]; done)), H', ⟨by have := HJ16.out; first | omega | exact Nat.le_refl _⟩, ⟨bC_ HO_8⟩, ⟨bC_ HO_10⟩, ⟨bC_ HO_12⟩, ⟨bC_ HO_14⟩, ⟨by (with_reducible repeat (first | apply zF | apply zE | apply zG)); exact Kd.R_mono HO_420001.out (fun _ hk => trivial)⟩, ⟨bA_ BK399⟩, ⟨bA_ BK400⟩, ⟨bA_ BK419⟩, ⟨bB_ HB⟩⟩
      case rest =>
       clear HC59
       try clear c1
       try clear c2
       try clear p2
       try clear c3
       try clear c4
       try clear c5
       try clear c5b0
       try clear c6
       try clear c7
       try clear c8
       try clear c15
       try clear c17
       try clear c19
       try clear c20
       try clear c21
       try clear c22
       try clear c23
       try clear c25
       try clear c30
       try clear c31
       try clear c32
       try clear c40
       try clear c41
       try clear c41b0
       try clear c41b1
       try clear c54
       try clear c57
       try clear c64
       try clear c65
       try clear c68
       try clear c68b0
       try clear c70
       try clear c71
       try clear c71b0
       try clear c71b1
       try clear hcz21_0
       try clear hcz21_1
       try clear hcz28_0
       try clear hcz28_1
       try clear hcz33_0
       try clear hcz33_1
       try clear hcz66_0
       try clear hcz66_1
       try clear hcz9_0
       try clear hcz9_1
       try clear hfz21_0
       try clear hfz21_1
       try clear hfz28_0
       try clear hfz28_1
       try clear hfz33_0
       try clear hfz33_1
       try clear hfz66_0
       try clear hfz66_1
       try clear hfz9_0
       try clear hfz9_1
       try clear p2
       obtain ⟨kq, x88_58, rfl, HA, HJ58, HO_8, HO_10, HO_12, HO_14, HO_420001, BK399, BK400, BK419, HB⟩ := hcut
       have hl420001_58 := (zK HO_420001.out).1
       rw [hl420001_58] at HO_420001
       (try simp only [hl420001_58])
       (try simp only [hl420001_58] at BK399)
       (try simp only [hl420001_58] at BK400)
       (try simp only [hl420001_58] at BK419)
       (try simp only [hl420001_58] at HO_8)
       (try simp only [hl420001_58] at HO_10)
       (try simp only [hl420001_58] at HO_12)
       (try simp only [hl420001_58] at HO_14)
       cases kq with
       | zero => exact absurd HA.out (by simp [laws_FnExactSketchMove.j1])
       | succ kj58 =>
        have H := HA.out
        clear HA
        simp only [laws_FnExactSketchMove.j1] at H
        by_cases c84 : x88_58 = true
        ·subst c84
         have H1 : (some false) = some r := by rw [if_pos rfl] at H; exact H
         clear H
         have H := H1
         clear H1
         obtain rfl := Option.some.inj H
         go_wp2
         go_ret
         exact ⟨by first | rfl | (simp [errW_none, errW_some] <;> rfl) | (simp [*, errW_none, errW_some] <;> rfl), bB_ HB⟩
        ·replace c84 := Bool.eq_false_iff.mpr c84
         subst c84
         have H1 : ((laws_markPointS.f kj58 t422 1).bind fun bt440 => ((laws_markIntS.f kj58 t426 bt440.1).bind fun bt442 => ((laws_heldPointS.f kj58 bt440.2 1).bind fun t444 => (if t444 < 0 then (some false) else ((laws_heldIntS.f kj58 bt442.2 t444).bind fun t445 => (if t445 < 0 then (some false) else (if t445 = bt442.1 then ((laws_toSketch.f kj58 a0_0 l0_1).bind fun bt446 => ((laws_toPoint.f a2_0 a2_1).bind fun bt450 => ((impl_SketchMove.f kj58 bt446.1 bt446.2 a1 bt450.1 bt450.2).bind fun bt452 => ((laws_eqPointS.f kj58 bt452.1 t408).bind fun t459 => (if t459 = true then (if bt452.2.1 = t411 then ((laws_eqIntS.f kj58 bt452.2.2 t412).bind fun t460 => (laws_FnExactSketchMove.j2 kj58 bt440.2 bt442.2 bt442.1 (!t460))) else (laws_FnExactSketchMove.j2 kj58 bt440.2 bt442.2 bt442.1 true)) else (laws_FnExactSketchMove.j2 kj58 bt440.2 bt442.2 bt442.1 true)))))) else (some false)))))))) = some r := by rw [if_neg (show ¬ (false = true) by decide)] at H; exact H
         clear H
         have H := H1
         clear H1
         replace H := Option.bind_eq_some_iff.mp H
         obtain ⟨⟨t440, t441⟩, A850, H⟩ := H
         replace H : ((laws_markIntS.f kj58 t426 t440).bind fun bt442 => ((laws_heldPointS.f kj58 t441 1).bind fun t444 => (if t444 < 0 then (some false) else ((laws_heldIntS.f kj58 bt442.2 t444).bind fun t445 => (if t445 < 0 then (some false) else (if t445 = bt442.1 then ((laws_toSketch.f kj58 a0_0 l0_1).bind fun bt446 => ((laws_toPoint.f a2_0 a2_1).bind fun bt450 => ((impl_SketchMove.f kj58 bt446.1 bt446.2 a1 bt450.1 bt450.2).bind fun bt452 => ((laws_eqPointS.f kj58 bt452.1 t408).bind fun t459 => (if t459 = true then (if bt452.2.1 = t411 then ((laws_eqIntS.f kj58 bt452.2.2 t412).bind fun t460 => (laws_FnExactSketchMove.j2 kj58 t441 bt442.2 bt442.1 (!t460))) else (laws_FnExactSketchMove.j2 kj58 t441 bt442.2 bt442.1 true)) else (laws_FnExactSketchMove.j2 kj58 t441 bt442.2 bt442.1 true)))))) else (some false))))))) = some r := H
         have A85 := zA A850
         clear A850
         replace H := Option.bind_eq_some_iff.mp H
         obtain ⟨⟨t442, t443⟩, A860, H⟩ := H
         replace H : ((laws_heldPointS.f kj58 t441 1).bind fun t444 => (if t444 < 0 then (some false) else ((laws_heldIntS.f kj58 t443 t444).bind fun t445 => (if t445 < 0 then (some false) else (if t445 = t442 then ((laws_toSketch.f kj58 a0_0 l0_1).bind fun bt446 => ((laws_toPoint.f a2_0 a2_1).bind fun bt450 => ((impl_SketchMove.f kj58 bt446.1 bt446.2 a1 bt450.1 bt450.2).bind fun bt452 => ((laws_eqPointS.f kj58 bt452.1 t408).bind fun t459 => (if t459 = true then (if bt452.2.1 = t411 then ((laws_eqIntS.f kj58 bt452.2.2 t412).bind fun t460 => (laws_FnExactSketchMove.j2 kj58 t441 t443 t442 (!t460))) else (laws_FnExactSketchMove.j2 kj58 t441 t443 t442 true)) else (laws_FnExactSketchMove.j2 kj58 t441 t443 t442 true)))))) else (some false)))))) = some r := H
         have A86 := zA A860
         clear A860
         replace H := Option.bind_eq_some_iff.mp H
         obtain ⟨t444, A870, H⟩ := H
         replace H : (if t444 < 0 then (some false) else ((laws_heldIntS.f kj58 t443 t444).bind fun t445 => (if t445 < 0 then (some false) else (if t445 = t442 then ((laws_toSketch.f kj58 a0_0 l0_1).bind fun bt446 => ((laws_toPoint.f a2_0 a2_1).bind fun bt450 => ((impl_SketchMove.f kj58 bt446.1 bt446.2 a1 bt450.1 bt450.2).bind fun bt452 => ((laws_eqPointS.f kj58 bt452.1 t408).bind fun t459 => (if t459 = true then (if bt452.2.1 = t411 then ((laws_eqIntS.f kj58 bt452.2.2 t412).bind fun t460 => (laws_FnExactSketchMove.j2 kj58 t441 t443 t442 (!t460))) else (laws_FnExactSketchMove.j2 kj58 t441 t443 t442 true)) else (laws_FnExactSketchMove.j2 kj58 t441 t443 t442 true)))))) else (some false))))) = some r := H
         have A87 := zA A870
         clear A870
         by_cases c88 : t444 < 0
         ·rw [if_pos c88] at H
          have c88b0 : decide (t444 < 0) = true := decide_eq_true c88
          clear c88
          obtain rfl := Option.some.inj H
          obtain ⟨Ao89, co89, eo89⟩ := Kd.R_slice HO_12.out
          subst eo89
          go_wp2_with (first | ((with_reducible refine gate_callee (f := 26) rfl ?_); refine goesL_ (some 91) rfl rfl Try.func26 (by kernel_rfl) rfl #[.slice Ao89 t422.length co89, .int .i64 1] rfl (by (try simp only [List.map_toArray, List.map_cons, List.map_nil]); first | done | rfl | (simp only [List.length_drop, List.length_take]; rfl)) ?_; (with_reducible refine (laws_markPointS.calls kj58 (fun k_ => some k_ = (.slice Ao89 t422.length co89 : Value).ownBlock) (.slice Ao89 t422.length co89) t422 1 t440 t441 w _ ?side1 ?side2 A85.out).mono ?_); (case side1 => repeat (first | (with_reducible first | exact HB.out | apply zR | apply zP | apply zQ | refine zS ?_ GE399.out | refine zS ?_ GE400.out | refine zS ?_ GE419.out) | exact HB.out)); (case side2 => exact Kd.R_tight rfl HO_12.out); rintro e w90 ⟨rfl, hy0, hb, hkp⟩; refine ⟨_, rfl, ?_⟩; have n0_ := zA (Kd.R_mono (ok' := fun k_ => some k_ ≠ (.slice Ao89 t422.length co89 : Value).ownBlock) (Kd.R_keptB (HO_8.out) hkp (fun k_ hk_ hs_ => (hk_) hs_)) (fun k_ hk_ => hk_.1)); have n1_ := zA (Kd.R_mono (ok' := fun k_ => some k_ ≠ (v427 : Value).ownBlock) (Kd.R_keptB ((Kd.R_apart' HO_10.out (Kd.R_typed HO_12.out) (by decide))) hkp (fun k_ hk_ hs_ => (hk_.2) hs_)) (fun k_ hk_ => hk_.1.1)); have n2_ := zA (Kd.R_reok rfl hy0 (fun k_ e_ => HO_12.out.1 k_ e_)); have n3_ := zA (Kd.R_mono (ok' := fun k_ => some k_ ≠ (v413 : Value).ownBlock) (Kd.R_keptB ((Kd.R_apart' HO_14.out (Kd.R_typed HO_12.out) (by decide))) hkp (fun k_ hk_ hs_ => (hk_.2) hs_)) (fun k_ hk_ => hk_.1.1)); have n4_ := zA (Kd.R_mono (ok' := fun k_ => True) (Kd.R_keptB ((Kd.R_apart' HO_420001.out (Kd.R_typed HO_12.out) (by decide))) hkp (fun k_ hk_ hs_ => (hk_.2) hs_)) (fun k_ hk_ => trivial)); have n5_ := zA (blk_kept (bA_ BK399) hkp (fun hs_ => (fun e_ => (Kd.R_ne HO_12.out BK399.out (by decide)) e_) hs_)); have n6_ := zA (blk_kept (bA_ BK400) hkp (fun hs_ => (fun e_ => (Kd.R_ne HO_12.out BK400.out (by decide)) e_) hs_)); have n7_ := zA (blk_kept (bA_ BK419) hkp (fun hs_ => (fun e_ => (Kd.R_ne HO_12.out BK419.out (by decide)) e_) hs_)); have n8_ := zA (hb); clear HO_8; clear HO_10; clear HO_12; clear HO_14; clear HO_420001; clear BK399; clear BK400; clear BK419; clear HB; have HO_8 := n0_; have HO_10 := n1_; have HO_12 := n2_; have HO_14 := n3_; have HO_420001 := n4_; have BK399 := n5_; have BK400 := n6_; have BK419 := n7_; have HB := n8_; clear n0_ n1_ n2_ n3_ n4_ n5_ n6_ n7_ n8_; (try clear hb); (try clear hkp); (try clear hy0); obtain ⟨Ao91, co91, eo91⟩ := Kd.R_slice HO_14.out; subst eo91) | ((with_reducible refine gate_callee (f := 27) rfl ?_); refine goesL_ (some 94) rfl rfl Try.func27 (by kernel_rfl) rfl #[.slice Ao91 t426.length co91, .int .i64 t440] rfl (by (try simp only [List.map_toArray, List.map_cons, List.map_nil]); first | done | rfl | (simp only [List.length_drop, List.length_take]; rfl)) ?_; (with_reducible refine (laws_markIntS.calls kj58 (fun k_ => some k_ = (.slice Ao91 t426.length co91 : Value).ownBlock) (.slice Ao91 t426.length co91) t426 t440 t442 t443 w _ ?side1 ?side2 A86.out).mono ?_); (case side1 => repeat (first | (with_reducible first | exact HB.out | apply zR | apply zP | apply zQ | refine zS ?_ GE399.out | refine zS ?_ GE400.out | refine zS ?_ GE419.out) | exact HB.out)); (case side2 => exact Kd.R_tight rfl HO_14.out); rintro e w92 ⟨rfl, hy0, hb, hkp⟩; refine ⟨_, rfl, ?_⟩; have n0_ := zA (Kd.R_mono (ok' := fun k_ => some k_ ≠ (.slice Ao89 t422.length co89 : Value).ownBlock) (Kd.R_keptB ((Kd.R_apart' HO_8.out (Kd.R_typed HO_14.out) (by decide))) hkp (fun k_ hk_ hs_ => (hk_.2) hs_)) (fun k_ hk_ => hk_.1.1)); have n1_ := zA (Kd.R_mono (ok' := fun k_ => some k_ ≠ (.slice Ao91 t426.length co91 : Value).ownBlock) (Kd.R_keptB (HO_10.out) hkp (fun k_ hk_ hs_ => (hk_) hs_)) (fun k_ hk_ => hk_.1)); have n2_ := zA (Kd.R_mono (ok' := fun k_ => some k_ ≠ (v409 : Value).ownBlock) (Kd.R_keptB ((Kd.R_apart' HO_12.out (Kd.R_typed HO_14.out) (by decide))) hkp (fun k_ hk_ hs_ => (hk_.2) hs_)) (fun k_ hk_ => hk_.1.1)); have n3_ := zA (Kd.R_reok rfl hy0 (fun k_ e_ => HO_14.out.1 k_ e_)); have n4_ := zA (Kd.R_mono (ok' := fun k_ => True) (Kd.R_keptB ((Kd.R_apart' HO_420001.out (Kd.R_typed HO_14.out) (by decide))) hkp (fun k_ hk_ hs_ => (hk_.2) hs_)) (fun k_ hk_ => trivial)); have n5_ := zA (blk_kept (bA_ BK399) hkp (fun hs_ => (fun e_ => (Kd.R_ne HO_14.out BK399.out (by decide)) e_) hs_)); have n6_ := zA (blk_kept (bA_ BK400) hkp (fun hs_ => (fun e_ => (Kd.R_ne HO_14.out BK400.out (by decide)) e_) hs_)); have n7_ := zA (blk_kept (bA_ BK419) hkp (fun hs_ => (fun e_ => (Kd.R_ne HO_14.out BK419.out (by decide)) e_) hs_)); have n8_ := zA (hb); clear HO_8; clear HO_10; clear HO_12; clear HO_14; clear HO_420001; clear BK399; clear BK400; clear BK419; clear HB; have HO_8 := n0_; have HO_10 := n1_; have HO_12 := n2_; have HO_14 := n3_; have HO_420001 := n4_; have BK399 := n5_; have BK400 := n6_; have BK419 := n7_; have HB := n8_; clear n0_ n1_ n2_ n3_ n4_ n5_ n6_ n7_ n8_; (try clear hb); (try clear hkp); (try clear hy0)) | ((with_reducible refine gate_callee (f := 28) rfl ?_); refine goesL_ (some 97) rfl rfl Try.func28 (by kernel_rfl) rfl #[.slice Ao89 t441.length co89, .int .i64 1] rfl (by (try simp only [List.map_toArray, List.map_cons, List.map_nil]); first | done | (rw [show t441.length = t422.length from (zK HO_12.out).1.symm] <;> rfl) | rfl | (simp only [List.length_drop, List.length_take]; rfl)) ?_; (with_reducible refine (laws_heldPointS.calls kj58 _ _ t441 1 t444 _ ?side1 ?side2 A87.out).mono ?_); (case side1 => repeat (first | exact (zK HO_12.out).2.2 | (with_reducible refine zI ?_ _) | (with_reducible refine zH ?_ _) | (with_reducible refine zJ ?_))); (case side2 => rw [show t441.length = t422.length from (zK HO_12.out).1.symm]; exact (zK HO_12.out).2.1); rintro e w' ⟨rfl, ⟨nd, rfl⟩⟩; refine ⟨_, rfl, ?_⟩))
          go_ret
          exact ⟨by first | rfl | (simp [errW_none, errW_some] <;> rfl) | (simp [*, errW_none, errW_some] <;> rfl), bB_ HB⟩
         ·rw [if_neg c88] at H
          have c88b0 : decide (t444 < 0) = false := decide_eq_false c88
          clear c88
          replace H := Option.bind_eq_some_iff.mp H
          obtain ⟨t445, A930, H⟩ := H
          replace H : (if t445 < 0 then (some false) else (if t445 = t442 then ((laws_toSketch.f kj58 a0_0 l0_1).bind fun bt446 => ((laws_toPoint.f a2_0 a2_1).bind fun bt450 => ((impl_SketchMove.f kj58 bt446.1 bt446.2 a1 bt450.1 bt450.2).bind fun bt452 => ((laws_eqPointS.f kj58 bt452.1 t408).bind fun t459 => (if t459 = true then (if bt452.2.1 = t411 then ((laws_eqIntS.f kj58 bt452.2.2 t412).bind fun t460 => (laws_FnExactSketchMove.j2 kj58 t441 t443 t442 (!t460))) else (laws_FnExactSketchMove.j2 kj58 t441 t443 t442 true)) else (laws_FnExactSketchMove.j2 kj58 t441 t443 t442 true)))))) else (some false))) = some r := H
          have A93 := zA A930
          clear A930
          by_cases c94 : t445 < 0
          ·rw [if_pos c94] at H
           have c94b0 : decide (t445 < 0) = true := decide_eq_true c94
           clear c94
           obtain rfl := Option.some.inj H
           obtain ⟨Ao95, co95, eo95⟩ := Kd.R_slice HO_12.out
           subst eo95
           go_wp2_with (first | ((with_reducible refine gate_callee (f := 26) rfl ?_); refine goesL_ (some 91) rfl rfl Try.func26 (by kernel_rfl) rfl #[.slice Ao95 t422.length co95, .int .i64 1] rfl (by (try simp only [List.map_toArray, List.map_cons, List.map_nil]); first | done | rfl | (simp only [List.length_drop, List.length_take]; rfl)) ?_; (with_reducible refine (laws_markPointS.calls kj58 (fun k_ => some k_ = (.slice Ao95 t422.length co95 : Value).ownBlock) (.slice Ao95 t422.length co95) t422 1 t440 t441 w _ ?side1 ?side2 A85.out).mono ?_); (case side1 => repeat (first | (with_reducible first | exact HB.out | apply zR | apply zP | apply zQ | refine zS ?_ GE399.out | refine zS ?_ GE400.out | refine zS ?_ GE419.out) | exact HB.out)); (case side2 => exact Kd.R_tight rfl HO_12.out); rintro e w96 ⟨rfl, hy0, hb, hkp⟩; refine ⟨_, rfl, ?_⟩; have n0_ := zA (Kd.R_mono (ok' := fun k_ => some k_ ≠ (.slice Ao95 t422.length co95 : Value).ownBlock) (Kd.R_keptB (HO_8.out) hkp (fun k_ hk_ hs_ => (hk_) hs_)) (fun k_ hk_ => hk_.1)); have n1_ := zA (Kd.R_mono (ok' := fun k_ => some k_ ≠ (v427 : Value).ownBlock) (Kd.R_keptB ((Kd.R_apart' HO_10.out (Kd.R_typed HO_12.out) (by decide))) hkp (fun k_ hk_ hs_ => (hk_.2) hs_)) (fun k_ hk_ => hk_.1.1)); have n2_ := zA (Kd.R_reok rfl hy0 (fun k_ e_ => HO_12.out.1 k_ e_)); have n3_ := zA (Kd.R_mono (ok' := fun k_ => some k_ ≠ (v413 : Value).ownBlock) (Kd.R_keptB ((Kd.R_apart' HO_14.out (Kd.R_typed HO_12.out) (by decide))) hkp (fun k_ hk_ hs_ => (hk_.2) hs_)) (fun k_ hk_ => hk_.1.1)); have n4_ := zA (Kd.R_mono (ok' := fun k_ => True) (Kd.R_keptB ((Kd.R_apart' HO_420001.out (Kd.R_typed HO_12.out) (by decide))) hkp (fun k_ hk_ hs_ => (hk_.2) hs_)) (fun k_ hk_ => trivial)); have n5_ := zA (blk_kept (bA_ BK399) hkp (fun hs_ => (fun e_ => (Kd.R_ne HO_12.out BK399.out (by decide)) e_) hs_)); have n6_ := zA (blk_kept (bA_ BK400) hkp (fun hs_ => (fun e_ => (Kd.R_ne HO_12.out BK400.out (by decide)) e_) hs_)); have n7_ := zA (blk_kept (bA_ BK419) hkp (fun hs_ => (fun e_ => (Kd.R_ne HO_12.out BK419.out (by decide)) e_) hs_)); have n8_ := zA (hb); clear HO_8; clear HO_10; clear HO_12; clear HO_14; clear HO_420001; clear BK399; clear BK400; clear BK419; clear HB; have HO_8 := n0_; have HO_10 := n1_; have HO_12 := n2_; have HO_14 := n3_; have HO_420001 := n4_; have BK399 := n5_; have BK400 := n6_; have BK419 := n7_; have HB := n8_; clear n0_ n1_ n2_ n3_ n4_ n5_ n6_ n7_ n8_; (try clear hb); (try clear hkp); (try clear hy0); obtain ⟨Ao97, co97, eo97⟩ := Kd.R_slice HO_14.out; subst eo97) | ((with_reducible refine gate_callee (f := 27) rfl ?_); refine goesL_ (some 94) rfl rfl Try.func27 (by kernel_rfl) rfl #[.slice Ao97 t426.length co97, .int .i64 t440] rfl (by (try simp only [List.map_toArray, List.map_cons, List.map_nil]); first | done | rfl | (simp only [List.length_drop, List.length_take]; rfl)) ?_; (with_reducible refine (laws_markIntS.calls kj58 (fun k_ => some k_ = (.slice Ao97 t426.length co97 : Value).ownBlock) (.slice Ao97 t426.length co97) t426 t440 t442 t443 w _ ?side1 ?side2 A86.out).mono ?_); (case side1 => repeat (first | (with_reducible first | exact HB.out | apply zR | apply zP | apply zQ | refine zS ?_ GE399.out | refine zS ?_ GE400.out | refine zS ?_ GE419.out) | exact HB.out)); (case side2 => exact Kd.R_tight rfl HO_14.out); rintro e w98 ⟨rfl, hy0, hb, hkp⟩; refine ⟨_, rfl, ?_⟩; have n0_ := zA (Kd.R_mono (ok' := fun k_ => some k_ ≠ (.slice Ao95 t422.length co95 : Value).ownBlock) (Kd.R_keptB ((Kd.R_apart' HO_8.out (Kd.R_typed HO_14.out) (by decide))) hkp (fun k_ hk_ hs_ => (hk_.2) hs_)) (fun k_ hk_ => hk_.1.1)); have n1_ := zA (Kd.R_mono (ok' := fun k_ => some k_ ≠ (.slice Ao97 t426.length co97 : Value).ownBlock) (Kd.R_keptB (HO_10.out) hkp (fun k_ hk_ hs_ => (hk_) hs_)) (fun k_ hk_ => hk_.1)); have n2_ := zA (Kd.R_mono (ok' := fun k_ => some k_ ≠ (v409 : Value).ownBlock) (Kd.R_keptB ((Kd.R_apart' HO_12.out (Kd.R_typed HO_14.out) (by decide))) hkp (fun k_ hk_ hs_ => (hk_.2) hs_)) (fun k_ hk_ => hk_.1.1)); have n3_ := zA (Kd.R_reok rfl hy0 (fun k_ e_ => HO_14.out.1 k_ e_)); have n4_ := zA (Kd.R_mono (ok' := fun k_ => True) (Kd.R_keptB ((Kd.R_apart' HO_420001.out (Kd.R_typed HO_14.out) (by decide))) hkp (fun k_ hk_ hs_ => (hk_.2) hs_)) (fun k_ hk_ => trivial)); have n5_ := zA (blk_kept (bA_ BK399) hkp (fun hs_ => (fun e_ => (Kd.R_ne HO_14.out BK399.out (by decide)) e_) hs_)); have n6_ := zA (blk_kept (bA_ BK400) hkp (fun hs_ => (fun e_ => (Kd.R_ne HO_14.out BK400.out (by decide)) e_) hs_)); have n7_ := zA (blk_kept (bA_ BK419) hkp (fun hs_ => (fun e_ => (Kd.R_ne HO_14.out BK419.out (by decide)) e_) hs_)); have n8_ := zA (hb); clear HO_8; clear HO_10; clear HO_12; clear HO_14; clear HO_420001; clear BK399; clear BK400; clear BK419; clear HB; have HO_8 := n0_; have HO_10 := n1_; have HO_12 := n2_; have HO_14 := n3_; have HO_420001 := n4_; have BK399 := n5_; have BK400 := n6_; have BK419 := n7_; have HB := n8_; clear n0_ n1_ n2_ n3_ n4_ n5_ n6_ n7_ n8_; (try clear hb); (try clear hkp); (try clear hy0)) | ((with_reducible refine gate_callee (f := 28) rfl ?_); refine goesL_ (some 97) rfl rfl Try.func28 (by kernel_rfl) rfl #[.slice Ao95 t441.length co95, .int .i64 1] rfl (by (try simp only [List.map_toArray, List.map_cons, List.map_nil]); first | done | (rw [show t441.length = t422.length from (zK HO_12.out).1.symm] <;> rfl) | rfl | (simp only [List.length_drop, List.length_take]; rfl)) ?_; (with_reducible refine (laws_heldPointS.calls kj58 _ _ t441 1 t444 _ ?side1 ?side2 A87.out).mono ?_); (case side1 => repeat (first | exact (zK HO_12.out).2.2 | (with_reducible refine zI ?_ _) | (with_reducible refine zH ?_ _) | (with_reducible refine zJ ?_))); (case side2 => rw [show t441.length = t422.length from (zK HO_12.out).1.symm]; exact (zK HO_12.out).2.1); rintro e w' ⟨rfl, ⟨nd, rfl⟩⟩; refine ⟨_, rfl, ?_⟩) | ((with_reducible refine gate_callee (f := 29) rfl ?_); refine goesL_ (some 102) rfl rfl Try.func29 (by kernel_rfl) rfl #[.slice Ao97 t443.length co97, .int .i64 t444] rfl (by (try simp only [List.map_toArray, List.map_cons, List.map_nil]); first | done | (rw [show t443.length = t426.length from (zK HO_14.out).1.symm] <;> rfl) | rfl | (simp only [List.length_drop, List.length_take]; rfl)) ?_; (with_reducible refine (laws_heldIntS.calls kj58 _ _ t443 t444 t445 _ ?side1 ?side2 A93.out).mono ?_); (case side1 => repeat (first | exact (zK HO_14.out).2.2 | (with_reducible refine zI ?_ _) | (with_reducible refine zH ?_ _) | (with_reducible refine zJ ?_))); (case side2 => rw [show t443.length = t426.length from (zK HO_14.out).1.symm]; exact (zK HO_14.out).2.1); rintro e w' ⟨rfl, ⟨nd, rfl⟩⟩; refine ⟨_, rfl, ?_⟩))
           go_ret
           exact ⟨by first | rfl | (simp [errW_none, errW_some] <;> rfl) | (simp [*, errW_none, errW_some] <;> rfl), bB_ HB⟩
          ·rw [if_neg c94] at H
           have c94b0 : decide (t445 < 0) = false := decide_eq_false c94
           clear c94
           by_cases c99 : t445 = t442
           ·rw [if_pos c99] at H
            have c99b0 : (t445 == t442) = true := beq_iff_eq.mpr c99
            have c99b1 : (t445 != t442) = false := bne_eq_false_iff_eq.mpr c99
            clear c99
            replace H := Option.bind_eq_some_iff.mp H
            obtain ⟨⟨t446, t447⟩, A1000, H⟩ := H
            replace H : ((laws_toPoint.f a2_0 a2_1).bind fun bt450 => ((impl_SketchMove.f kj58 t446 t447 a1 bt450.1 bt450.2).bind fun bt452 => ((laws_eqPointS.f kj58 bt452.1 t408).bind fun t459 => (if t459 = true then (if bt452.2.1 = t411 then ((laws_eqIntS.f kj58 bt452.2.2 t412).bind fun t460 => (laws_FnExactSketchMove.j2 kj58 t441 t443 t442 (!t460))) else (laws_FnExactSketchMove.j2 kj58 t441 t443 t442 true)) else (laws_FnExactSketchMove.j2 kj58 t441 t443 t442 true))))) = some r := H
            have A100 := zA A1000
            clear A1000
            replace H := Option.bind_eq_some_iff.mp H
            obtain ⟨⟨t450, t451⟩, A1010, H⟩ := H
            replace H : ((impl_SketchMove.f kj58 t446 t447 a1 t450 t451).bind fun bt452 => ((laws_eqPointS.f kj58 bt452.1 t408).bind fun t459 => (if t459 = true then (if bt452.2.1 = t411 then ((laws_eqIntS.f kj58 bt452.2.2 t412).bind fun t460 => (laws_FnExactSketchMove.j2 kj58 t441 t443 t442 (!t460))) else (laws_FnExactSketchMove.j2 kj58 t441 t443 t442 true)) else (laws_FnExactSketchMove.j2 kj58 t441 t443 t442 true)))) = some r := H
            have A101 := zA A1010
            clear A1010
            replace H := Option.bind_eq_some_iff.mp H
            obtain ⟨⟨t452, t455, t456⟩, A1020, H⟩ := H
            replace H : ((laws_eqPointS.f kj58 t452 t408).bind fun t459 => (if t459 = true then (if t455 = t411 then ((laws_eqIntS.f kj58 t456 t412).bind fun t460 => (laws_FnExactSketchMove.j2 kj58 t441 t443 t442 (!t460))) else (laws_FnExactSketchMove.j2 kj58 t441 t443 t442 true)) else (laws_FnExactSketchMove.j2 kj58 t441 t443 t442 true))) = some r := H
            have A102 := zA A1020
            clear A1020
            have HC103 := zA H
            clear H
            obtain ⟨Ao104, co104, eo104⟩ := Kd.R_slice HO_12.out
            subst eo104
            try go_wp2_with (first | ((with_reducible refine gate_callee (f := 26) rfl ?_); refine goesL_ (some 91) rfl rfl Try.func26 (by kernel_rfl) rfl #[.slice Ao104 t422.length co104, .int .i64 1] rfl (by (try simp only [List.map_toArray, List.map_cons, List.map_nil]); first | done | rfl | (simp only [List.length_drop, List.length_take]; rfl)) ?_; (with_reducible refine (laws_markPointS.calls kj58 (fun k_ => some k_ = (.slice Ao104 t422.length co104 : Value).ownBlock) (.slice Ao104 t422.length co104) t422 1 t440 t441 w _ ?side1 ?side2 A85.out).mono ?_); (case side1 => repeat (first | (with_reducible first | exact HB.out | apply zR | apply zP | apply zQ | refine zS ?_ GE399.out | refine zS ?_ GE400.out | refine zS ?_ GE419.out) | exact HB.out)); (case side2 => exact Kd.R_tight rfl HO_12.out); rintro e w105 ⟨rfl, hy0, hb, hkp⟩; refine ⟨_, rfl, ?_⟩; have n0_ := zA (Kd.R_mono (ok' := fun k_ => some k_ ≠ (.slice Ao104 t422.length co104 : Value).ownBlock) (Kd.R_keptB (HO_8.out) hkp (fun k_ hk_ hs_ => (hk_) hs_)) (fun k_ hk_ => hk_.1)); have n1_ := zA (Kd.R_mono (ok' := fun k_ => some k_ ≠ (v427 : Value).ownBlock) (Kd.R_keptB ((Kd.R_apart' HO_10.out (Kd.R_typed HO_12.out) (by decide))) hkp (fun k_ hk_ hs_ => (hk_.2) hs_)) (fun k_ hk_ => hk_.1.1)); have n2_ := zA (Kd.R_reok rfl hy0 (fun k_ e_ => HO_12.out.1 k_ e_)); have n3_ := zA (Kd.R_mono (ok' := fun k_ => some k_ ≠ (v413 : Value).ownBlock) (Kd.R_keptB ((Kd.R_apart' HO_14.out (Kd.R_typed HO_12.out) (by decide))) hkp (fun k_ hk_ hs_ => (hk_.2) hs_)) (fun k_ hk_ => hk_.1.1)); have n4_ := zA (Kd.R_mono (ok' := fun k_ => True) (Kd.R_keptB ((Kd.R_apart' HO_420001.out (Kd.R_typed HO_12.out) (by decide))) hkp (fun k_ hk_ hs_ => (hk_.2) hs_)) (fun k_ hk_ => trivial)); have n5_ := zA (blk_kept (bA_ BK399) hkp (fun hs_ => (fun e_ => (Kd.R_ne HO_12.out BK399.out (by decide)) e_) hs_)); have n6_ := zA (blk_kept (bA_ BK400) hkp (fun hs_ => (fun e_ => (Kd.R_ne HO_12.out BK400.out (by decide)) e_) hs_)); have n7_ := zA (blk_kept (bA_ BK419) hkp (fun hs_ => (fun e_ => (Kd.R_ne HO_12.out BK419.out (by decide)) e_) hs_)); have n8_ := zA (hb); clear HO_8; clear HO_10; clear HO_12; clear HO_14; clear HO_420001; clear BK399; clear BK400; clear BK419; clear HB; have HO_8 := n0_; have HO_10 := n1_; have HO_12 := n2_; have HO_14 := n3_; have HO_420001 := n4_; have BK399 := n5_; have BK400 := n6_; have BK419 := n7_; have HB := n8_; clear n0_ n1_ n2_ n3_ n4_ n5_ n6_ n7_ n8_; (try clear hb); (try clear hkp); (try clear hy0); obtain ⟨Ao106, co106, eo106⟩ := Kd.R_slice HO_14.out; subst eo106) | ((with_reducible refine gate_callee (f := 27) rfl ?_); refine goesL_ (some 94) rfl rfl Try.func27 (by kernel_rfl) rfl #[.slice Ao106 t426.length co106, .int .i64 t440] rfl (by (try simp only [List.map_toArray, List.map_cons, List.map_nil]); first | done | rfl | (simp only [List.length_drop, List.length_take]; rfl)) ?_; (with_reducible refine (laws_markIntS.calls kj58 (fun k_ => some k_ = (.slice Ao106 t426.length co106 : Value).ownBlock) (.slice Ao106 t426.length co106) t426 t440 t442 t443 w _ ?side1 ?side2 A86.out).mono ?_); (case side1 => repeat (first | (with_reducible first | exact HB.out | apply zR | apply zP | apply zQ | refine zS ?_ GE399.out | refine zS ?_ GE400.out | refine zS ?_ GE419.out) | exact HB.out)); (case side2 => exact Kd.R_tight rfl HO_14.out); rintro e w107 ⟨rfl, hy0, hb, hkp⟩; refine ⟨_, rfl, ?_⟩; have n0_ := zA (Kd.R_mono (ok' := fun k_ => some k_ ≠ (.slice Ao104 t422.length co104 : Value).ownBlock) (Kd.R_keptB ((Kd.R_apart' HO_8.out (Kd.R_typed HO_14.out) (by decide))) hkp (fun k_ hk_ hs_ => (hk_.2) hs_)) (fun k_ hk_ => hk_.1.1)); have n1_ := zA (Kd.R_mono (ok' := fun k_ => some k_ ≠ (.slice Ao106 t426.length co106 : Value).ownBlock) (Kd.R_keptB (HO_10.out) hkp (fun k_ hk_ hs_ => (hk_) hs_)) (fun k_ hk_ => hk_.1)); have n2_ := zA (Kd.R_mono (ok' := fun k_ => some k_ ≠ (v409 : Value).ownBlock) (Kd.R_keptB ((Kd.R_apart' HO_12.out (Kd.R_typed HO_14.out) (by decide))) hkp (fun k_ hk_ hs_ => (hk_.2) hs_)) (fun k_ hk_ => hk_.1.1)); have n3_ := zA (Kd.R_reok rfl hy0 (fun k_ e_ => HO_14.out.1 k_ e_)); have n4_ := zA (Kd.R_mono (ok' := fun k_ => True) (Kd.R_keptB ((Kd.R_apart' HO_420001.out (Kd.R_typed HO_14.out) (by decide))) hkp (fun k_ hk_ hs_ => (hk_.2) hs_)) (fun k_ hk_ => trivial)); have n5_ := zA (blk_kept (bA_ BK399) hkp (fun hs_ => (fun e_ => (Kd.R_ne HO_14.out BK399.out (by decide)) e_) hs_)); have n6_ := zA (blk_kept (bA_ BK400) hkp (fun hs_ => (fun e_ => (Kd.R_ne HO_14.out BK400.out (by decide)) e_) hs_)); have n7_ := zA (blk_kept (bA_ BK419) hkp (fun hs_ => (fun e_ => (Kd.R_ne HO_14.out BK419.out (by decide)) e_) hs_)); have n8_ := zA (hb); clear HO_8; clear HO_10; clear HO_12; clear HO_14; clear HO_420001; clear BK399; clear BK400; clear BK419; clear HB; have HO_8 := n0_; have HO_10 := n1_; have HO_12 := n2_; have HO_14 := n3_; have HO_420001 := n4_; have BK399 := n5_; have BK400 := n6_; have BK419 := n7_; have HB := n8_; clear n0_ n1_ n2_ n3_ n4_ n5_ n6_ n7_ n8_; (try clear hb); (try clear hkp); (try clear hy0)) | ((with_reducible refine gate_callee (f := 28) rfl ?_); refine goesL_ (some 97) rfl rfl Try.func28 (by kernel_rfl) rfl #[.slice Ao104 t441.length co104, .int .i64 1] rfl (by (try simp only [List.map_toArray, List.map_cons, List.map_nil]); first | done | (rw [show t441.length = t422.length from (zK HO_12.out).1.symm] <;> rfl) | rfl | (simp only [List.length_drop, List.length_take]; rfl)) ?_; (with_reducible refine (laws_heldPointS.calls kj58 _ _ t441 1 t444 _ ?side1 ?side2 A87.out).mono ?_); (case side1 => repeat (first | exact (zK HO_12.out).2.2 | (with_reducible refine zI ?_ _) | (with_reducible refine zH ?_ _) | (with_reducible refine zJ ?_))); (case side2 => rw [show t441.length = t422.length from (zK HO_12.out).1.symm]; exact (zK HO_12.out).2.1); rintro e w' ⟨rfl, ⟨nd, rfl⟩⟩; refine ⟨_, rfl, ?_⟩) | ((with_reducible refine gate_callee (f := 29) rfl ?_); refine goesL_ (some 102) rfl rfl Try.func29 (by kernel_rfl) rfl #[.slice Ao106 t443.length co106, .int .i64 t444] rfl (by (try simp only [List.map_toArray, List.map_cons, List.map_nil]); first | done | (rw [show t443.length = t426.length from (zK HO_14.out).1.symm] <;> rfl) | rfl | (simp only [List.length_drop, List.length_take]; rfl)) ?_; (with_reducible refine (laws_heldIntS.calls kj58 _ _ t443 t444 t445 _ ?side1 ?side2 A93.out).mono ?_); (case side1 => repeat (first | exact (zK HO_14.out).2.2 | (with_reducible refine zI ?_ _) | (with_reducible refine zH ?_ _) | (with_reducible refine zJ ?_))); (case side2 => rw [show t443.length = t426.length from (zK HO_14.out).1.symm]; exact (zK HO_14.out).2.1); rintro e w' ⟨rfl, ⟨nd, rfl⟩⟩; refine ⟨_, rfl, ?_⟩))
            (try (rw [drewN_self w107]; generalize hq_ : World.drewN w107 _ = w107; have n0_ : Aside0 (Kd.R (Kd.int .i64) 3 w107 w.heap.size (fun k_ => some k_ ≠ (.slice Ao106 t426.length co106 : Value).ownBlock) v413 t412) := ⟨by rw [← hq_]; exact (bC_ HO_10)⟩; have n1_ : Aside0 (Kd.R k48 48 w107 w.heap.size (fun k_ => some k_ ≠ (v409 : Value).ownBlock) (.slice Ao104 t422.length co104) t441) := ⟨by rw [← hq_]; exact (bC_ HO_12)⟩; have n2_ : Aside0 (Kd.R (Kd.int .i64) 3 w107 w.heap.size (fun k_ => some k_ ≠ (v413 : Value).ownBlock) (.slice Ao106 t426.length co106) t443) := ⟨by rw [← hq_]; exact (bC_ HO_14)⟩; have n3_ : Aside0 (Kd.R k35 35 w107 w.heap.size (fun _ => True) (.slice Ao34 t437.length co34) t437) := ⟨by rw [← hq_]; exact (bC_ HO_420001)⟩; have n4_ : Aside0 (Kd.R k48 48 w107 w.heap.size (fun k_ => some k_ ≠ (.slice Ao104 t422.length co104 : Value).ownBlock) v409 t408) := ⟨by rw [← hq_]; exact (bC_ HO_8)⟩; have n5_ : Aside0 (w107.heap[gb399]? = some (.cells #[.int .i64 a0_0, .slice A0_1 l0_1.length c0_1] 39 (0, 0))) := ⟨by rw [← hq_]; exact (bA_ BK399)⟩; have n6_ : Aside0 (w107.heap[gb400]? = some (.cells #[.int .i64 a2_0, .int .i64 a2_1] 53 (0, 0))) := ⟨by rw [← hq_]; exact (bA_ BK400)⟩; have n7_ : Aside0 (w107.heap[gb419]? = some (.cells #[.int .i64 t415, .slice Ao34 t437.length co34] 25 (0, 0))) := ⟨by rw [← hq_]; exact (bA_ BK419)⟩; have n8_ : Aside0 (Below w.heap.size w w107) := ⟨by rw [← hq_]; exact (bB_ HB)⟩; clear HO_10 HO_12 HO_14 HO_420001 HO_8 BK399 BK400 BK419 HB hq_; have HO_10 := n0_; have HO_12 := n1_; have HO_14 := n2_; have HO_420001 := n3_; have HO_8 := n4_; have BK399 := n5_; have BK400 := n6_; have BK419 := n7_; have HB := n8_; clear n0_ n1_ n2_ n3_ n4_ n5_ n6_ n7_ n8_))
            have n0_ := zA (zG HO_8.out)
            have n1_ := zA (zG HO_10.out)
            have n2_ := zA (zG HO_12.out)
            have n3_ := zA (zG HO_14.out)
            have n4_ := zA (zG HO_420001.out)
            have n5_ := zA (zN BK399.out)
            have n6_ := zA (zN BK400.out)
            have n7_ := zA (zN BK419.out)
            have n8_ := zA (zQ HB.out)
            clear HO_8
            clear HO_10
            clear HO_12
            clear HO_14
            clear HO_420001
            clear BK399
            clear BK400
            clear BK419
            clear HB
            have HO_8 := n0_
            have HO_10 := n1_
            have HO_12 := n2_
            have HO_14 := n3_
            have HO_420001 := n4_
            have BK399 := n5_
            have BK400 := n6_
            have BK419 := n7_
            have HB := n8_
            clear n0_ n1_ n2_ n3_ n4_ n5_ n6_ n7_ n8_
            refine start_ (n := 13) (S := fun w' => w'.cell? ⟨gb399, 0, none⟩ = some (.int .i64 a0_0) ∧ w'.cell? ⟨gb399, 1, none⟩ = some (.slice A0_1 l0_1.length c0_1) ∧ w'.cell? ⟨gb400, 0, none⟩ = some (.int .i64 a2_0) ∧ w'.cell? ⟨gb400, 1, none⟩ = some (.int .i64 a2_1)) (ds := []) #[false, false, false, false, false, false, false, false, false, false, false, false, false] (by kernel_rfl) rfl rfl ⟨(blk_cell BK399.out 0).trans rfl, (blk_cell BK399.out 1).trans rfl, (blk_cell BK400.out 0).trans rfl, (blk_cell BK400.out 1).trans rfl⟩ (fun hHeld => ?_); refine with_tabW laws_FnExactSketchMove.tab28 laws_FnExactSketchMove.bits28 (fun HT_ HW_ => ?_)
            generalize w107.drew = w108 at HO_8 HO_10 HO_12 HO_14 HO_420001 BK399 BK400 BK419 HB hHeld ⊢
            refine pure_ (i := 2) (N := some 111) (v := ?_) (a' := ?_) #[false, false, true, false, false, false, false, false, false, false, false, false, false] rfl rfl (any_of HT_.out (by kernel_rfl)) (fun _ _ _ h => h) (Or.inl ⟨by rfl, ?_⟩) ?_ ?_
            rotate_left
            ·intro w'
             go_simp
             with_reducible rfl
            rotate_left
            ·simp only [Act.put, zB, zC, zD, i64_w, i32_w]
             rfl
            refine take_ (i := 0) (N := some 109) (v := ?_) (a' := ?_) #[true, false, true, false, false, false, false, false, false, false, false, false, false] rfl rfl (take_ofW HT_.out HW_.out (by kernel_rfl)) (fun _ _ _ h => h) (Or.inl ⟨by rfl, ?_⟩) hHeld ?_ ?_
            rotate_left
            ·rintro w' ⟨s0, s1, s2, s3⟩
             go_simp
             with_reducible rfl
            rotate_left
            ·simp only [Act.put, zB, zC, zD, i64_w, i32_w]
             rfl
            refine take_ (i := 3) (N := some 112) (v := ?_) (a' := ?_) #[true, false, true, true, false, false, false, false, false, false, false, false, false] rfl rfl (take_ofW HT_.out HW_.out (by kernel_rfl)) (fun _ _ _ h => h) (Or.inl ⟨by rfl, ?_⟩) hHeld ?_ ?_
            rotate_left
            ·rintro w' ⟨s0, s1, s2, s3⟩
             go_simp
             with_reducible rfl
            rotate_left
            ·simp only [Act.put, zB, zC, zD, i64_w, i32_w]
             rfl
            refine one_ (i := 1) (N := some 110) #[true, true, true, true, false, false, false, false, false, false, false, false, false] rfl rfl (one_of HT_.out (by kernel_rfl)) (by decide) (fun K hK => ?_)
            refine goes_ Try.func17 (by kernel_rfl) rfl #[.agg #[.int .i64 a0_0, .slice A0_1 l0_1.length c0_1]] (by rfl) rfl rfl (by (try simp only [List.map_toArray, List.map_cons, List.map_nil]); first | done | rfl | (simp only [List.length_drop, List.length_take]; rfl)) ?_
            with_reducible refine (laws_toSketch.calls kj58 a0_0 _ _ l0_1 t446 t447 _ ?side1 ?side2 A100.out).mono ?_
            (case side1 => repeat (first | exact (Kd.C_below HR0_1.out HB.out) | (with_reducible refine zI ?_ _) | (with_reducible refine zH ?_ _) | (with_reducible refine zJ ?_)))
            (case side2 => exact HC0_1.out)
            rintro e w109 ⟨v448, rfl, ho0, hb⟩
            refine ⟨_, rfl, ?_⟩
            have n0_ := zA (zL (bC_ HO_8) hb)
            have n1_ := zA (zL (bC_ HO_10) hb)
            have n2_ := zA (zL (bC_ HO_12) hb)
            have n3_ := zA (zL (bC_ HO_14) hb)
            have n4_ := zA (Kd.R_elder' (bC_ HO_420001) (Kd.R_base ho0) hb)
            have n5_ := zA (Kd.R_lower (Kd.R_new' ho0 (Kd.R_lt (bC_ HO_420001))) (zT (bB_ HB)))
            have n6_ := zA (zU (g := gb399) (o := .cells #[.int .i64 a0_0, .slice A0_1 l0_1.length c0_1] 39 (0, 0)) (bA_ BK399) hb)
            have n7_ := zA (zU (g := gb400) (o := .cells #[.int .i64 a2_0, .int .i64 a2_1] 53 (0, 0)) (bA_ BK400) hb)
            have n8_ := zA (zU (g := gb419) (o := .cells #[.int .i64 t415, .slice Ao34 t437.length co34] 25 (0, 0)) (bA_ BK419) hb)
            have n9_ := zA (below_step (bB_ HB) hb)
            clear HO_8
            clear HO_10
            clear HO_12
            clear HO_14
            clear HO_420001
            clear BK399
            clear BK400
            clear BK419
            clear HB
            have HO_8 := n0_
            have HO_10 := n1_
            have HO_12 := n2_
            have HO_14 := n3_
            have HO_420001 := n4_
            have HO449 := n5_
            have BK399 := n6_
            have BK400 := n7_
            have BK419 := n8_
            have HB := n9_
            clear n0_ n1_ n2_ n3_ n4_ n5_ n6_ n7_ n8_ n9_
            (try clear hb)
            (try clear hb2)
            (try clear hk)
            (try clear hi)
            (try clear ho0)
            refine hK.out _ _ ⟨(blk_cell BK399.out 0).trans rfl, (blk_cell BK399.out 1).trans rfl, (blk_cell BK400.out 0).trans rfl, (blk_cell BK400.out 1).trans rfl⟩ (fun hHeld => ?_)
            clear hK K
            refine norm_ (a' := ?_) ?_ ?_
            rotate_left
            ·show Act.put _ (some 110) _ = _
             simp only [Act.put, zB, zC, zD, i64_w, i32_w]
             rfl
            refine one_ (i := 4) (N := some 113) #[true, true, true, true, true, false, false, false, false, false, false, false, false] rfl rfl (one_of HT_.out (by kernel_rfl)) (by decide) (fun K hK => ?_)
            refine goes_ Try.func30 (by kernel_rfl) rfl #[.agg #[.int .i64 a2_0, .int .i64 a2_1]] (by rfl) rfl rfl (by (try simp only [List.map_toArray, List.map_cons, List.map_nil]); first | done | rfl | (simp only [List.length_drop, List.length_take]; rfl)) ?_
            with_reducible refine (laws_toPoint.calls a2_0 a2_1 t450 t451 _ A101.out).mono ?_
            rintro e w110 ⟨rfl, hb⟩
            refine ⟨_, rfl, ?_⟩
            have n0_ := zA (zL (bC_ HO_8) hb)
            have n1_ := zA (zL (bC_ HO_10) hb)
            have n2_ := zA (zL (bC_ HO_12) hb)
            have n3_ := zA (zL (bC_ HO_14) hb)
            have n4_ := zA (zL (bC_ HO_420001) hb)
            have n5_ := zA (zL (bC_ HO449) hb)
            have n6_ := zA (zU (g := gb399) (o := .cells #[.int .i64 a0_0, .slice A0_1 l0_1.length c0_1] 39 (0, 0)) (bA_ BK399) hb)
            have n7_ := zA (zU (g := gb400) (o := .cells #[.int .i64 a2_0, .int .i64 a2_1] 53 (0, 0)) (bA_ BK400) hb)
            have n8_ := zA (zU (g := gb419) (o := .cells #[.int .i64 t415, .slice Ao34 t437.length co34] 25 (0, 0)) (bA_ BK419) hb)
            have n9_ := zA (below_step (bB_ HB) hb)
            clear HO_8
            clear HO_10
            clear HO_12
            clear HO_14
            clear HO_420001
            clear HO449
            clear BK399
            clear BK400
            clear BK419
            clear HB
            have HO_8 := n0_
            have HO_10 := n1_
            have HO_12 := n2_
            have HO_14 := n3_
            have HO_420001 := n4_
            have HO449 := n5_
            have BK399 := n6_
            have BK400 := n7_
            have BK419 := n8_
            have HB := n9_
            clear n0_ n1_ n2_ n3_ n4_ n5_ n6_ n7_ n8_ n9_
            (try clear hb)
            (try clear hb2)
            (try clear hk)
            (try clear hi)
            obtain ⟨Ao111, co111, eo111⟩ := Kd.R_slice HO449.out
            (first | subst eo111 | (injection eo111 with f1_ f2_ f3_; have f4_ := f1_.symm; have f5_ := f3_.symm; clear f1_ f2_ f3_; subst f4_; subst f5_))
            refine hK.out _ _ ⟨(blk_cell BK399.out 0).trans rfl, (blk_cell BK399.out 1).trans rfl, (blk_cell BK400.out 0).trans rfl, (blk_cell BK400.out 1).trans rfl⟩ (fun hHeld => ?_)
            clear hK K
            refine norm_ (a' := ?_) ?_ ?_
            rotate_left
            ·show Act.put _ (some 113) _ = _
             simp only [Act.put, zB, zC, zD, i64_w, i32_w]
             rfl
            refine one_ (i := 5) (N := some 114) #[true, true, true, true, true, true, false, false, false, false, false, false, false] rfl rfl (one_of HT_.out (by kernel_rfl)) (by decide) (fun K hK => ?_)
            refine goes_ Try.func21 (by kernel_rfl) rfl #[.agg #[.int .i64 t446, .slice Ao111 t447.length co111], .int .i64 a1, .agg #[.int .i64 t450, .int .i64 t451]] (by rfl) rfl rfl (by (try simp only [List.map_toArray, List.map_cons, List.map_nil]); first | done | rfl | (simp only [List.length_drop, List.length_take]; rfl)) ?_
            with_reducible refine (impl_SketchMove.calls kj58 t446 _ _ t447 a1 t450 t451 t452 t455 t456 _ ?side1 ?side2 A102.out).mono ?_
            (case side1 => repeat (first | exact (zK HO449.out).2.2 | (with_reducible refine zI ?_ _) | (with_reducible refine zH ?_ _) | (with_reducible refine zJ ?_)))
            (case side2 => exact (zK HO449.out).2.1)
            rintro e w112 ⟨v453, v457, rfl, ho0, ho1, hb⟩
            refine ⟨_, rfl, ?_⟩
            have n0_ := zA (Kd.R_elder' (bC_ HO_8) (Kd.R_base ho0) hb)
            have n1_ := zA (Kd.R_elder' (bC_ HO_10) (Kd.R_base ho1) hb)
            have n2_ := zA (Kd.R_elder' (bC_ HO_12) (Kd.R_base ho0) hb)
            have n3_ := zA (Kd.R_elder' (bC_ HO_14) (Kd.R_base ho1) hb)
            have n4_ := zA (zL (bC_ HO_420001) hb)
            have n5_ := zA (zL (bC_ HO449) hb)
            have n6_ := zA (Kd.R_lower (Kd.R_new' (Kd.R_new' ho0 (Kd.R_lt (bC_ HO_8))) (Kd.R_lt (bC_ HO_12))) (zT (bB_ HB)))
            have n7_ := zA (Kd.R_lower (Kd.R_new' (Kd.R_new' ho1 (Kd.R_lt (bC_ HO_10))) (Kd.R_lt (bC_ HO_14))) (zT (bB_ HB)))
            have n8_ := zA (zU (g := gb399) (o := .cells #[.int .i64 a0_0, .slice A0_1 l0_1.length c0_1] 39 (0, 0)) (bA_ BK399) hb)
            have n9_ := zA (zU (g := gb400) (o := .cells #[.int .i64 a2_0, .int .i64 a2_1] 53 (0, 0)) (bA_ BK400) hb)
            have n10_ := zA (zU (g := gb419) (o := .cells #[.int .i64 t415, .slice Ao34 t437.length co34] 25 (0, 0)) (bA_ BK419) hb)
            have n11_ := zA (below_step (bB_ HB) hb)
            clear HO_8
            clear HO_10
            clear HO_12
            clear HO_14
            clear HO_420001
            clear HO449
            clear BK399
            clear BK400
            clear BK419
            clear HB
            have HO_8 := n0_
            have HO_10 := n1_
            have HO_12 := n2_
            have HO_14 := n3_
            have HO_420001 := n4_
            have HO449 := n5_
            have HO454 := n6_
            have HO458 := n7_
            have BK399 := n8_
            have BK400 := n9_
            have BK419 := n10_
            have HB := n11_
            clear n0_ n1_ n2_ n3_ n4_ n5_ n6_ n7_ n8_ n9_ n10_ n11_
            (try clear hb)
            (try clear hb2)
            (try clear hk)
            (try clear hi)
            (try clear ho0)
            (try clear ho1)
            refine hK.out _ _ ⟨(blk_cell BK399.out 0).trans rfl, (blk_cell BK399.out 1).trans rfl, (blk_cell BK400.out 0).trans rfl, (blk_cell BK400.out 1).trans rfl⟩ (fun hHeld => ?_)
            clear hK K
            refine norm_ (a' := ?_) ?_ ?_
            rotate_left
            ·show Act.put _ (some 114) _ = _
             simp only [Act.put, zB, zC, zD, i64_w, i32_w]
             rfl
            refine pure_ (i := 6) (N := some 108) (v := ?_) (a' := ?_) #[true, true, true, true, true, true, true, false, false, false, false, false, false] rfl rfl (any_of HT_.out (by kernel_rfl)) (fun _ _ _ h => h) (Or.inl ⟨by rfl, ?_⟩) ?_ ?_
            rotate_left
            ·intro w'
             go_simp
             with_reducible rfl
            rotate_left
            ·simp only [Act.put, zB, zC, zD, i64_w, i32_w]
             rfl
            refine pure_ (i := 7) (N := some 115) (v := ?_) (a' := ?_) #[true, true, true, true, true, true, true, true, false, false, false, false, false] rfl rfl (any_of HT_.out (by kernel_rfl)) (fun _ _ _ h => h) (Or.inl ⟨by rfl, ?_⟩) ?_ ?_
            rotate_left
            ·intro w'
             go_simp
             with_reducible rfl
            rotate_left
            ·simp only [Act.put, zB, zC, zD, i64_w, i32_w]
             rfl
            refine pure_ (i := 8) (N := some 116) (v := ?_) (a' := ?_) #[true, true, true, true, true, true, true, true, true, false, false, false, false] rfl rfl (any_of HT_.out (by kernel_rfl)) (fun _ _ _ h => h) (Or.inl ⟨by rfl, ?_⟩) ?_ ?_
            rotate_left
            ·intro w'
             go_simp
             with_reducible rfl
            rotate_left
            ·simp only [Act.put, zB, zC, zD, i64_w, i32_w]
             rfl
            refine pure_ (i := 9) (N := some 117) (v := ?_) (a' := ?_) #[true, true, true, true, true, true, true, true, true, true, false, false, false] rfl rfl (any_of HT_.out (by kernel_rfl)) (fun _ _ _ h => h) (Or.inl ⟨by rfl, ?_⟩) ?_ ?_
            rotate_left
            ·intro w'
             go_simp
             with_reducible rfl
            rotate_left
            ·simp only [Act.put, zB, zC, zD, i64_w, i32_w]
             rfl
            refine pure_ (i := 10) (N := some 18) (v := ?_) (a' := ?_) #[true, true, true, true, true, true, true, true, true, true, true, false, false] rfl rfl (any_of HT_.out (by kernel_rfl)) (fun _ _ _ h => h) (Or.inl ⟨by rfl, ?_⟩) ?_ ?_
            rotate_left
            ·intro w'
             go_simp
             with_reducible rfl
            rotate_left
            ·simp only [Act.put, zB, zC, zD, i64_w, i32_w]
             rfl
            refine pure_ (i := 11) (N := some 19) (v := ?_) (a' := ?_) #[true, true, true, true, true, true, true, true, true, true, true, true, false] rfl rfl (any_of HT_.out (by kernel_rfl)) (fun _ _ _ h => h) (Or.inl ⟨by rfl, ?_⟩) ?_ ?_
            rotate_left
            ·intro w'
             go_simp
             with_reducible rfl
            rotate_left
            ·simp only [Act.put, zB, zC, zD, i64_w, i32_w]
             rfl
            refine pure_ (i := 12) (N := some 20) (v := ?_) (a' := ?_) #[true, true, true, true, true, true, true, true, true, true, true, true, true] rfl rfl (any_of HT_.out (by kernel_rfl)) (fun _ _ _ h => h) (Or.inl ⟨by rfl, ?_⟩) ?_ ?_
            rotate_left
            ·intro w'
             go_simp
             with_reducible rfl
            rotate_left
            ·simp only [Act.put, zB, zC, zD, i64_w, i32_w]
             rfl
            refine done_ (done_of HT_.out (by kernel_rfl)) ?_
            go_upto_region 29 with (fail)
            go_cut [132] (fun v132 wc => ∃ (kq : Nat) (x132_102 : Bool), v132 = .bool x132_102 ∧ Aside0 (laws_FnExactSketchMove.j2 kq t441 t443 t442 x132_102 = some r) ∧ Aside0 (kq ≤ kj58) ∧ Aside0 (Kd.R k48 48 wc w.heap.size (fun _ => True) (.slice Ao104 t422.length co104) t441) ∧ Aside0 (Kd.R (Kd.int .i64) 3 wc w.heap.size (fun _ => True) (.slice Ao106 t426.length co106) t443) ∧ Aside0 (Kd.R k35 35 wc w.heap.size (fun _ => True) (.slice Ao34 t437.length co34) t437) ∧ Aside0 (wc.heap[gb399]? = some (.cells #[.int .i64 a0_0, (.slice A0_1 l0_1.length c0_1)] 39 (0, 0))) ∧ Aside0 (wc.heap[gb400]? = some (.cells #[.int .i64 a2_0, .int .i64 a2_1] 53 (0, 0))) ∧ Aside0 (wc.heap[gb419]? = some (.cells #[.int .i64 t415, (.slice Ao34 t437.length co34)] 25 (0, 0))) ∧ Aside0 (Below w.heap.size w wc))
            case first =>
             have H := HC103.out
             clear HC103
             replace H := Option.bind_eq_some_iff.mp H
             obtain ⟨t459, A1130, H⟩ := H
             replace H : (if t459 = true then (if t455 = t411 then ((laws_eqIntS.f kj58 t456 t412).bind fun t460 => (laws_FnExactSketchMove.j2 kj58 t441 t443 t442 (!t460))) else (laws_FnExactSketchMove.j2 kj58 t441 t443 t442 true)) else (laws_FnExactSketchMove.j2 kj58 t441 t443 t442 true)) = some r := H
             have A113 := zA A1130
             clear A1130
             by_cases c114 : t459 = true
             ·subst c114
              have H1 : (if t455 = t411 then ((laws_eqIntS.f kj58 t456 t412).bind fun t460 => (laws_FnExactSketchMove.j2 kj58 t441 t443 t442 (!t460))) else (laws_FnExactSketchMove.j2 kj58 t441 t443 t442 true)) = some r := by rw [if_pos rfl] at H; exact H
              clear H
              have H := H1
              clear H1
              by_cases c115 : t455 = t411
              ·rw [if_pos c115] at H
               have c115b0 : (t455 == t411) = true := beq_iff_eq.mpr c115
               have c115b1 : (t455 != t411) = false := bne_eq_false_iff_eq.mpr c115
               clear c115
               (first | rw [c115b0] | (simp only [i64_w, i32_w]; rw [c115b0]) | skip)
               replace H := Option.bind_eq_some_iff.mp H
               obtain ⟨t460, A1160, H⟩ := H
               replace H : (laws_FnExactSketchMove.j2 kj58 t441 t443 t442 (!t460)) = some r := H
               have A116 := zA A1160
               clear A1160
               have H' := zA H
               clear H
               obtain ⟨Ao117, co117, eo117⟩ := Kd.R_slice HO454.out
               subst eo117
               obtain ⟨Ao118, co118, eo118⟩ := Kd.R_slice HO_8.out
               subst eo118
               go_wp2_with (first | ((with_reducible refine gate_callee (f := 23) rfl ?_); refine goesL_ (some 120) rfl rfl Try.func23 (by kernel_rfl) rfl #[.slice Ao117 t452.length co117, .slice Ao118 t408.length co118] rfl (by (try simp only [List.map_toArray, List.map_cons, List.map_nil]); first | done | rfl | (simp only [List.length_drop, List.length_take]; rfl)) ?_; (with_reducible refine (laws_eqPointS.calls kj58 _ _ t452 _ _ t408 true _ ?side1 ?side2 ?side3 ?side4 A113.out).mono ?_); (case side1 => repeat (first | exact (zK HO454.out).2.2 | (with_reducible refine zI ?_ _) | (with_reducible refine zH ?_ _) | (with_reducible refine zJ ?_))); (case side2 => exact (zK HO454.out).2.1); (case side3 => repeat (first | exact (zK HO_8.out).2.2 | (with_reducible refine zI ?_ _) | (with_reducible refine zH ?_ _) | (with_reducible refine zJ ?_))); (case side4 => exact (zK HO_8.out).2.1); rintro e w119 ⟨rfl, hb⟩; refine ⟨_, rfl, ?_⟩; have n0_ := zA (zL (bC_ HO_8) hb); have n1_ := zA (zL (bC_ HO_10) hb); have n2_ := zA (zL (bC_ HO_12) hb); have n3_ := zA (zL (bC_ HO_14) hb); have n4_ := zA (zL (bC_ HO_420001) hb); have n5_ := zA (zL (bC_ HO449) hb); have n6_ := zA (zL (bC_ HO454) hb); have n7_ := zA (zL (bC_ HO458) hb); have n8_ := zA (zU (g := gb399) (o := .cells #[.int .i64 a0_0, .slice A0_1 l0_1.length c0_1] 39 (0, 0)) (bA_ BK399) hb); have n9_ := zA (zU (g := gb400) (o := .cells #[.int .i64 a2_0, .int .i64 a2_1] 53 (0, 0)) (bA_ BK400) hb); have n10_ := zA (zU (g := gb419) (o := .cells #[.int .i64 t415, .slice Ao34 t437.length co34] 25 (0, 0)) (bA_ BK419) hb); have n11_ := zA (below_step (bB_ HB) hb); clear HO_8; clear HO_10; clear HO_12; clear HO_14; clear HO_420001; clear HO449; clear HO454; clear HO458; clear BK399; clear BK400; clear BK419; clear HB; have HO_8 := n0_; have HO_10 := n1_; have HO_12 := n2_; have HO_14 := n3_; have HO_420001 := n4_; have HO449 := n5_; have HO454 := n6_; have HO458 := n7_; have BK399 := n8_; have BK400 := n9_; have BK419 := n10_; have HB := n11_; clear n0_ n1_ n2_ n3_ n4_ n5_ n6_ n7_ n8_ n9_ n10_ n11_; (try clear hb); (try clear hb2); (try clear hk); (try clear hi); obtain ⟨Ao120, co120, eo120⟩ := Kd.R_slice HO458.out; subst eo120; obtain ⟨Ao121, co121, eo121⟩ := Kd.R_slice HO_10.out; subst eo121) | (go_at_call 24; (with_reducible refine (laws_eqIntS.calls kj58 _ _ t456 _ _ t412 t460 _ ?side1 ?side2 ?side3 ?side4 A116.out).mono ?_); (case side1 => repeat (first | exact (zK HO458.out).2.2 | (with_reducible refine zI ?_ _) | (with_reducible refine zH ?_ _) | (with_reducible refine zJ ?_))); (case side2 => exact (zK HO458.out).2.1); (case side3 => repeat (first | exact (zK HO_10.out).2.2 | (with_reducible refine zI ?_ _) | (with_reducible refine zH ?_ _) | (with_reducible refine zJ ?_))); (case side4 => exact (zK HO_10.out).2.1); rintro e w' ⟨rfl, ⟨nd, rfl⟩⟩))
               go_meet
               case rel => exact ⟨_, (!t460), (by first | rfl | (simp; done) | (simp [*]; done)), H', ⟨by have := HJ16.out; have := HJ58.out; first | omega | exact Nat.le_refl _⟩, ⟨by (try simp only [hl420001_58]); (with_reducible repeat (first | apply zF | apply zE | apply zG)); exact Kd.R_mono HO_12.out (fun _ hk => trivial)⟩, ⟨by (try simp only [hl420001_58]); (with_reducible repeat (first | apply zF | apply zE | apply zG)); exact Kd.R_mono HO_14.out (fun _ hk => trivial)⟩, ⟨by (try simp only [hl420001_58]); (with_reducible repeat (first | apply zF | apply zE | apply zG)); exact Kd.R_mono HO_420001.out (fun _ hk => trivial)⟩, ⟨by (try simp only [hl420001_58]); (with_reducible repeat (first | refine zM ?_ _ | refine zN ?_ | refine zO ?_ _)); exact BK399.out⟩, ⟨by (try simp only [hl420001_58]); (with_reducible repeat (first | refine zM ?_ _ | refine zN ?_ | refine zO ?_ _)); exact BK400.out⟩, ⟨by (try simp only [hl420001_58]); (with_reducible repeat (first | refine zM ?_ _ | refine zN ?_ | refine zO ?_ _)); exact BK419.out⟩, ⟨bB_ HB⟩⟩
              ·rw [if_neg c115] at H
               have c115b0 : (t455 == t411) = false := beq_eq_false_iff_ne.mpr c115
               have c115b1 : (t455 != t411) = true := bne_iff_ne.mpr c115
               (first | rw [c115b0] | (simp only [i64_w, i32_w]; rw [c115b0]) | skip)
               have H' := zA H
               clear H
               obtain ⟨Ao122, co122, eo122⟩ := Kd.R_slice HO454.out
               subst eo122
               obtain ⟨Ao123, co123, eo123⟩ := Kd.R_slice HO_8.out
               subst eo123
               go_wp2_with (first | ((with_reducible refine gate_callee (f := 23) rfl ?_); refine goesL_ (some 120) rfl rfl Try.func23 (by kernel_rfl) rfl #[.slice Ao122 t452.length co122, .slice Ao123 t408.length co123] rfl (by (try simp only [List.map_toArray, List.map_cons, List.map_nil]); first | done | rfl | (simp only [List.length_drop, List.length_take]; rfl)) ?_; (with_reducible refine (laws_eqPointS.calls kj58 _ _ t452 _ _ t408 true _ ?side1 ?side2 ?side3 ?side4 A113.out).mono ?_); (case side1 => repeat (first | exact (zK HO454.out).2.2 | (with_reducible refine zI ?_ _) | (with_reducible refine zH ?_ _) | (with_reducible refine zJ ?_))); (case side2 => exact (zK HO454.out).2.1); (case side3 => repeat (first | exact (zK HO_8.out).2.2 | (with_reducible refine zI ?_ _) | (with_reducible refine zH ?_ _) | (with_reducible refine zJ ?_))); (case side4 => exact (zK HO_8.out).2.1); rintro e w124 ⟨rfl, hb⟩; refine ⟨_, rfl, ?_⟩; have n0_ := zA (zL (bC_ HO_8) hb); have n1_ := zA (zL (bC_ HO_10) hb); have n2_ := zA (zL (bC_ HO_12) hb); have n3_ := zA (zL (bC_ HO_14) hb); have n4_ := zA (zL (bC_ HO_420001) hb); have n5_ := zA (zL (bC_ HO449) hb); have n6_ := zA (zL (bC_ HO454) hb); have n7_ := zA (zL (bC_ HO458) hb); have n8_ := zA (zU (g := gb399) (o := .cells #[.int .i64 a0_0, .slice A0_1 l0_1.length c0_1] 39 (0, 0)) (bA_ BK399) hb); have n9_ := zA (zU (g := gb400) (o := .cells #[.int .i64 a2_0, .int .i64 a2_1] 53 (0, 0)) (bA_ BK400) hb); have n10_ := zA (zU (g := gb419) (o := .cells #[.int .i64 t415, .slice Ao34 t437.length co34] 25 (0, 0)) (bA_ BK419) hb); have n11_ := zA (below_step (bB_ HB) hb); clear HO_8; clear HO_10; clear HO_12; clear HO_14; clear HO_420001; clear HO449; clear HO454; clear HO458; clear BK399; clear BK400; clear BK419; clear HB; have HO_8 := n0_; have HO_10 := n1_; have HO_12 := n2_; have HO_14 := n3_; have HO_420001 := n4_; have HO449 := n5_; have HO454 := n6_; have HO458 := n7_; have BK399 := n8_; have BK400 := n9_; have BK419 := n10_; have HB := n11_; clear n0_ n1_ n2_ n3_ n4_ n5_ n6_ n7_ n8_ n9_ n10_ n11_; (try clear hb); (try clear hb2); (try clear hk); (try clear hi)))
               go_meet
               case rel => exact ⟨_, (true), (by first | rfl | (simp; done) | (simp [*]; done)), H', ⟨by have := HJ16.out; have := HJ58.out; first | omega | exact Nat.le_refl _⟩, ⟨by (try simp only [hl420001_58]); (with_reducible repeat (first | apply zF | apply zE | apply zG)); exact Kd.R_mono HO_12.out (fun _ hk => trivial)⟩, ⟨by (try simp only [hl420001_58]); (with_reducible repeat (first | apply zF | apply zE | apply zG)); exact Kd.R_mono HO_14.out (fun _ hk => trivial)⟩, ⟨by (try simp only [hl420001_58]); (with_reducible repeat (first | apply zF | apply zE | apply zG)); exact Kd.R_mono HO_420001.out (fun _ hk => trivial)⟩, ⟨by (try simp only [hl420001_58]); (with_reducible repeat (first | refine zM ?_ _ | refine zN ?_ | refine zO ?_ _)); exact BK399.out⟩, ⟨by (try simp only [hl420001_58]); (with_reducible repeat (first | refine zM ?_ _ | refine zN ?_ | refine zO ?_ _)); exact BK400.out⟩, ⟨by (try simp only [hl420001_58]); (with_reducible repeat (first | refine zM ?_ _ | refine zN ?_ | refine zO ?_ _)); exact BK419.out⟩, ⟨bB_ HB⟩⟩
             ·replace c114 := Bool.eq_false_iff.mpr c114
              subst c114
              have H1 : (laws_FnExactSketchMove.j2 kj58 t441 t443 t442 true) = some r := by rw [if_neg (show ¬ (false = true) by decide)] at H; exact H
              clear H
              have H := H1
              clear H1
              have H' := zA H
              clear H
              obtain ⟨Ao125, co125, eo125⟩ := Kd.R_slice HO454.out
              subst eo125
              obtain ⟨Ao126, co126, eo126⟩ := Kd.R_slice HO_8.out
              subst eo126
              go_wp2_with (first | ((with_reducible refine gate_callee (f := 23) rfl ?_); refine goesL_ (some 120) rfl rfl Try.func23 (by kernel_rfl) rfl #[.slice Ao125 t452.length co125, .slice Ao126 t408.length co126] rfl (by (try simp only [List.map_toArray, List.map_cons, List.map_nil]); first | done | rfl | (simp only [List.length_drop, List.length_take]; rfl)) ?_; (with_reducible refine (laws_eqPointS.calls kj58 _ _ t452 _ _ t408 false _ ?side1 ?side2 ?side3 ?side4 A113.out).mono ?_); (case side1 => repeat (first | exact (zK HO454.out).2.2 | (with_reducible refine zI ?_ _) | (with_reducible refine zH ?_ _) | (with_reducible refine zJ ?_))); (case side2 => exact (zK HO454.out).2.1); (case side3 => repeat (first | exact (zK HO_8.out).2.2 | (with_reducible refine zI ?_ _) | (with_reducible refine zH ?_ _) | (with_reducible refine zJ ?_))); (case side4 => exact (zK HO_8.out).2.1); rintro e w127 ⟨rfl, hb⟩; refine ⟨_, rfl, ?_⟩; have n0_ := zA (zL (bC_ HO_8) hb); have n1_ := zA (zL (bC_ HO_10) hb); have n2_ := zA (zL (bC_ HO_12) hb); have n3_ := zA (zL (bC_ HO_14) hb); have n4_ := zA (zL (bC_ HO_420001) hb); have n5_ := zA (zL (bC_ HO449) hb); have n6_ := zA (zL (bC_ HO454) hb); have n7_ := zA (zL (bC_ HO458) hb); have n8_ := zA (zU (g := gb399) (o := .cells #[.int .i64 a0_0, .slice A0_1 l0_1.length c0_1] 39 (0, 0)) (bA_ BK399) hb); have n9_ := zA (zU (g := gb400) (o := .cells #[.int .i64 a2_0, .int .i64 a2_1] 53 (0, 0)) (bA_ BK400) hb); have n10_ := zA (zU (g := gb419) (o := .cells #[.int .i64 t415, .slice Ao34 t437.length co34] 25 (0, 0)) (bA_ BK419) hb); have n11_ := zA (below_step (bB_ HB) hb); clear HO_8; clear HO_10; clear HO_12; clear HO_14; clear HO_420001; clear HO449; clear HO454; clear HO458; clear BK399; clear BK400; clear BK419; clear HB; have HO_8 := n0_; have HO_10 := n1_; have HO_12 := n2_; have HO_14 := n3_; have HO_420001 := n4_; have HO449 := n5_; have HO454 := n6_; have HO458 := n7_; have BK399 := n8_; have BK400 := n9_; have BK419 := n10_; have HB := n11_; clear n0_ n1_ n2_ n3_ n4_ n5_ n6_ n7_ n8_ n9_ n10_ n11_; (try clear hb); (try clear hb2); (try clear hk); (try clear hi)))
              go_meet
              case rel => exact ⟨_, (true), (by first | rfl | (simp; done) | (simp [*]; done)), H', ⟨by have := HJ16.out; have := HJ58.out; first | omega | exact Nat.le_refl _⟩, ⟨by (try simp only [hl420001_58]); (with_reducible repeat (first | apply zF | apply zE | apply zG)); exact Kd.R_mono HO_12.out (fun _ hk => trivial)⟩, ⟨by (try simp only [hl420001_58]); (with_reducible repeat (first | apply zF | apply zE | apply zG)); exact Kd.R_mono HO_14.out (fun _ hk => trivial)⟩, ⟨by (try simp only [hl420001_58]); (with_reducible repeat (first | apply zF | apply zE | apply zG)); exact Kd.R_mono HO_420001.out (fun _ hk => trivial)⟩, ⟨by (try simp only [hl420001_58]); (with_reducible repeat (first | refine zM ?_ _ | refine zN ?_ | refine zO ?_ _)); exact BK399.out⟩, ⟨by (try simp only [hl420001_58]); (with_reducible repeat (first | refine zM ?_ _ | refine zN ?_ | refine zO ?_ _)); exact BK400.out⟩, ⟨by (try simp only [hl420001_58]); (with_reducible repeat (first | refine zM ?_ _ | refine zN ?_ | refine zO ?_ _)); exact BK419.out⟩, ⟨bB_ HB⟩⟩
            case rest =>
             clear HC103
             try clear c1
             try clear c2
             try clear p2
             try clear c3
             try clear c4
             try clear c5
             try clear c5b0
             try clear c6
             try clear c7
             try clear c8
             try clear c9
             try clear c11
             try clear c15
             try clear c17
             try clear c19
             try clear c20
             try clear c21
             try clear c22
             try clear c23
             try clear c25
             try clear c26
             try clear c27
             try clear c28
             try clear c29
             try clear c30
             try clear c31
             try clear c32
             try clear c40
             try clear c41
             try clear c41b0
             try clear c41b1
             try clear c54
             try clear c57
             try clear c64
             try clear c65
             try clear c68
             try clear c68b0
             try clear c70
             try clear c71
             try clear c71b0
             try clear c71b1
             try clear c84
             try clear c88
             try clear c88b0
             try clear c94
             try clear c94b0
             try clear c99
             try clear c99b0
             try clear c99b1
             try clear c114
             try clear c115
             try clear c115b0
             try clear c115b1
             try clear hcz21_0
             try clear hcz21_1
             try clear hcz28_0
             try clear hcz28_1
             try clear hcz33_0
             try clear hcz33_1
             try clear hcz66_0
             try clear hcz66_1
             try clear hcz9_0
             try clear hcz9_1
             try clear hfz21_0
             try clear hfz21_1
             try clear hfz28_0
             try clear hfz28_1
             try clear hfz33_0
             try clear hfz33_1
             try clear hfz66_0
             try clear hfz66_1
             try clear hfz9_0
             try clear hfz9_1
             try clear p2
             obtain ⟨kq, x132_102, rfl, HA, HJ102, HO_12, HO_14, HO_420001, BK399, BK400, BK419, HB⟩ := hcut
             have hl12_102 := (zK HO_12.out).1
             rw [hl12_102] at HO_12
             (try simp only [hl12_102])
             (try simp only [hl12_102] at BK399)
             (try simp only [hl12_102] at BK400)
             (try simp only [hl12_102] at BK419)
             (try simp only [hl12_102] at HO_14)
             (try simp only [hl12_102] at HO_420001)
             have hl14_102 := (zK HO_14.out).1
             rw [hl14_102] at HO_14
             (try simp only [hl14_102])
             (try simp only [hl14_102] at BK399)
             (try simp only [hl14_102] at BK400)
             (try simp only [hl14_102] at BK419)
             (try simp only [hl14_102] at HO_12)
             (try simp only [hl14_102] at HO_420001)
             cases kq with
             | zero => exact absurd HA.out (by simp [laws_FnExactSketchMove.j2])
             | succ kj102 =>
              have H := HA.out
              clear HA
              simp only [laws_FnExactSketchMove.j2] at H
              by_cases c128 : x132_102 = true
              ·subst c128
               have H1 : (some false) = some r := by rw [if_pos rfl] at H; exact H
               clear H
               have H := H1
               clear H1
               obtain rfl := Option.some.inj H
               go_wp2
               go_ret
               exact ⟨by first | rfl | (simp [errW_none, errW_some] <;> rfl) | (simp [*, errW_none, errW_some] <;> rfl), bB_ HB⟩
              ·replace c128 := Bool.eq_false_iff.mpr c128
               subst c128
               have H1 : ((laws_heldPointS.f kj102 t441 1).bind fun t461 => (if t461 < 0 then (some false) else ((laws_heldIntS.f kj102 t443 t461).bind fun t462 => (if t462 < 0 then (some false) else (if t462 = t442 then (some true) else (some false)))))) = some r := by rw [if_neg (show ¬ (false = true) by decide)] at H; exact H
               clear H
               have H := H1
               clear H1
               replace H := Option.bind_eq_some_iff.mp H
               obtain ⟨t461, A1290, H⟩ := H
               replace H : (if t461 < 0 then (some false) else ((laws_heldIntS.f kj102 t443 t461).bind fun t462 => (if t462 < 0 then (some false) else (if t462 = t442 then (some true) else (some false))))) = some r := H
               have A129 := zA A1290
               clear A1290
               by_cases c130 : t461 < 0
               ·rw [if_pos c130] at H
                have c130b0 : decide (t461 < 0) = true := decide_eq_true c130
                clear c130
                obtain rfl := Option.some.inj H
                go_wp2_with (first | ((with_reducible refine gate_callee (f := 28) rfl ?_); refine goesL_ (some 135) rfl rfl Try.func28 (by kernel_rfl) rfl #[.slice Ao104 t441.length co104, .int .i64 1] rfl (by (try simp only [List.map_toArray, List.map_cons, List.map_nil]); first | done | rfl | (simp only [List.length_drop, List.length_take]; rfl)) ?_; (with_reducible refine (laws_heldPointS.calls kj102 _ _ t441 1 t461 _ ?side1 ?side2 A129.out).mono ?_); (case side1 => repeat (first | exact (zK HO_12.out).2.2 | (with_reducible refine zI ?_ _) | (with_reducible refine zH ?_ _) | (with_reducible refine zJ ?_))); (case side2 => exact (zK HO_12.out).2.1); rintro e w' ⟨rfl, ⟨nd, rfl⟩⟩; refine ⟨_, rfl, ?_⟩))
                go_ret
                exact ⟨by first | rfl | (simp [errW_none, errW_some] <;> rfl) | (simp [*, errW_none, errW_some] <;> rfl), bB_ HB⟩
               ·rw [if_neg c130] at H
                have c130b0 : decide (t461 < 0) = false := decide_eq_false c130
                clear c130
                replace H := Option.bind_eq_some_iff.mp H
                obtain ⟨t462, A1310, H⟩ := H
                replace H : (if t462 < 0 then (some false) else (if t462 = t442 then (some true) else (some false))) = some r := H
                have A131 := zA A1310
                clear A1310
                by_cases c132 : t462 < 0
                ·rw [if_pos c132] at H
                 have c132b0 : decide (t462 < 0) = true := decide_eq_true c132
                 clear c132
                 obtain rfl := Option.some.inj H
                 go_wp2_with (first | ((with_reducible refine gate_callee (f := 28) rfl ?_); refine goesL_ (some 135) rfl rfl Try.func28 (by kernel_rfl) rfl #[.slice Ao104 t441.length co104, .int .i64 1] rfl (by (try simp only [List.map_toArray, List.map_cons, List.map_nil]); first | done | rfl | (simp only [List.length_drop, List.length_take]; rfl)) ?_; (with_reducible refine (laws_heldPointS.calls kj102 _ _ t441 1 t461 _ ?side1 ?side2 A129.out).mono ?_); (case side1 => repeat (first | exact (zK HO_12.out).2.2 | (with_reducible refine zI ?_ _) | (with_reducible refine zH ?_ _) | (with_reducible refine zJ ?_))); (case side2 => exact (zK HO_12.out).2.1); rintro e w' ⟨rfl, ⟨nd, rfl⟩⟩; refine ⟨_, rfl, ?_⟩) | ((with_reducible refine gate_callee (f := 29) rfl ?_); refine goesL_ (some 140) rfl rfl Try.func29 (by kernel_rfl) rfl #[.slice Ao106 t443.length co106, .int .i64 t461] rfl (by (try simp only [List.map_toArray, List.map_cons, List.map_nil]); first | done | rfl | (simp only [List.length_drop, List.length_take]; rfl)) ?_; (with_reducible refine (laws_heldIntS.calls kj102 _ _ t443 t461 t462 _ ?side1 ?side2 A131.out).mono ?_); (case side1 => repeat (first | exact (zK HO_14.out).2.2 | (with_reducible refine zI ?_ _) | (with_reducible refine zH ?_ _) | (with_reducible refine zJ ?_))); (case side2 => exact (zK HO_14.out).2.1); rintro e w' ⟨rfl, ⟨nd, rfl⟩⟩; refine ⟨_, rfl, ?_⟩))
                 go_ret
                 exact ⟨by first | rfl | (simp [errW_none, errW_some] <;> rfl) | (simp [*, errW_none, errW_some] <;> rfl), bB_ HB⟩
                ·rw [if_neg c132] at H
                 have c132b0 : decide (t462 < 0) = false := decide_eq_false c132
                 clear c132
                 by_cases c133 : t462 = t442
                 ·rw [if_pos c133] at H
                  have c133b0 : (t462 == t442) = true := beq_iff_eq.mpr c133
                  have c133b1 : (t462 != t442) = false := bne_eq_false_iff_eq.mpr c133
                  clear c133
                  obtain rfl := Option.some.inj H
                  go_wp2_with (first | ((with_reducible refine gate_callee (f := 28) rfl ?_); refine goesL_ (some 135) rfl rfl Try.func28 (by kernel_rfl) rfl #[.slice Ao104 t441.length co104, .int .i64 1] rfl (by (try simp only [List.map_toArray, List.map_cons, List.map_nil]); first | done | rfl | (simp only [List.length_drop, List.length_take]; rfl)) ?_; (with_reducible refine (laws_heldPointS.calls kj102 _ _ t441 1 t461 _ ?side1 ?side2 A129.out).mono ?_); (case side1 => repeat (first | exact (zK HO_12.out).2.2 | (with_reducible refine zI ?_ _) | (with_reducible refine zH ?_ _) | (with_reducible refine zJ ?_))); (case side2 => exact (zK HO_12.out).2.1); rintro e w' ⟨rfl, ⟨nd, rfl⟩⟩; refine ⟨_, rfl, ?_⟩) | ((with_reducible refine gate_callee (f := 29) rfl ?_); refine goesL_ (some 140) rfl rfl Try.func29 (by kernel_rfl) rfl #[.slice Ao106 t443.length co106, .int .i64 t461] rfl (by (try simp only [List.map_toArray, List.map_cons, List.map_nil]); first | done | rfl | (simp only [List.length_drop, List.length_take]; rfl)) ?_; (with_reducible refine (laws_heldIntS.calls kj102 _ _ t443 t461 t462 _ ?side1 ?side2 A131.out).mono ?_); (case side1 => repeat (first | exact (zK HO_14.out).2.2 | (with_reducible refine zI ?_ _) | (with_reducible refine zH ?_ _) | (with_reducible refine zJ ?_))); (case side2 => exact (zK HO_14.out).2.1); rintro e w' ⟨rfl, ⟨nd, rfl⟩⟩; refine ⟨_, rfl, ?_⟩))
                  go_ret
                  exact ⟨by first | rfl | (simp [errW_none, errW_some] <;> rfl) | (simp [*, errW_none, errW_some] <;> rfl), bB_ HB⟩
                 ·rw [if_neg c133] at H
                  have c133b0 : (t462 == t442) = false := beq_eq_false_iff_ne.mpr c133
                  have c133b1 : (t462 != t442) = true := bne_iff_ne.mpr c133
                  obtain rfl := Option.some.inj H
                  go_wp2_with (first | ((with_reducible refine gate_callee (f := 28) rfl ?_); refine goesL_ (some 135) rfl rfl Try.func28 (by kernel_rfl) rfl #[.slice Ao104 t441.length co104, .int .i64 1] rfl (by (try simp only [List.map_toArray, List.map_cons, List.map_nil]); first | done | rfl | (simp only [List.length_drop, List.length_take]; rfl)) ?_; (with_reducible refine (laws_heldPointS.calls kj102 _ _ t441 1 t461 _ ?side1 ?side2 A129.out).mono ?_); (case side1 => repeat (first | exact (zK HO_12.out).2.2 | (with_reducible refine zI ?_ _) | (with_reducible refine zH ?_ _) | (with_reducible refine zJ ?_))); (case side2 => exact (zK HO_12.out).2.1); rintro e w' ⟨rfl, ⟨nd, rfl⟩⟩; refine ⟨_, rfl, ?_⟩) | ((with_reducible refine gate_callee (f := 29) rfl ?_); refine goesL_ (some 140) rfl rfl Try.func29 (by kernel_rfl) rfl #[.slice Ao106 t443.length co106, .int .i64 t461] rfl (by (try simp only [List.map_toArray, List.map_cons, List.map_nil]); first | done | rfl | (simp only [List.length_drop, List.length_take]; rfl)) ?_; (with_reducible refine (laws_heldIntS.calls kj102 _ _ t443 t461 t462 _ ?side1 ?side2 A131.out).mono ?_); (case side1 => repeat (first | exact (zK HO_14.out).2.2 | (with_reducible refine zI ?_ _) | (with_reducible refine zH ?_ _) | (with_reducible refine zJ ?_))); (case side2 => exact (zK HO_14.out).2.1); rintro e w' ⟨rfl, ⟨nd, rfl⟩⟩; refine ⟨_, rfl, ?_⟩))
                  go_ret
                  exact ⟨by first | rfl | (simp [errW_none, errW_some] <;> rfl) | (simp [*, errW_none, errW_some] <;> rfl), bB_ HB⟩
           ·rw [if_neg c99] at H
            have c99b0 : (t445 == t442) = false := beq_eq_false_iff_ne.mpr c99
            have c99b1 : (t445 != t442) = true := bne_iff_ne.mpr c99
            obtain rfl := Option.some.inj H
            obtain ⟨Ao134, co134, eo134⟩ := Kd.R_slice HO_12.out
            subst eo134
            go_wp2_with (first | ((with_reducible refine gate_callee (f := 26) rfl ?_); refine goesL_ (some 91) rfl rfl Try.func26 (by kernel_rfl) rfl #[.slice Ao134 t422.length co134, .int .i64 1] rfl (by (try simp only [List.map_toArray, List.map_cons, List.map_nil]); first | done | rfl | (simp only [List.length_drop, List.length_take]; rfl)) ?_; (with_reducible refine (laws_markPointS.calls kj58 (fun k_ => some k_ = (.slice Ao134 t422.length co134 : Value).ownBlock) (.slice Ao134 t422.length co134) t422 1 t440 t441 w _ ?side1 ?side2 A85.out).mono ?_); (case side1 => repeat (first | (with_reducible first | exact HB.out | apply zR | apply zP | apply zQ | refine zS ?_ GE399.out | refine zS ?_ GE400.out | refine zS ?_ GE419.out) | exact HB.out)); (case side2 => exact Kd.R_tight rfl HO_12.out); rintro e w135 ⟨rfl, hy0, hb, hkp⟩; refine ⟨_, rfl, ?_⟩; have n0_ := zA (Kd.R_mono (ok' := fun k_ => some k_ ≠ (.slice Ao134 t422.length co134 : Value).ownBlock) (Kd.R_keptB (HO_8.out) hkp (fun k_ hk_ hs_ => (hk_) hs_)) (fun k_ hk_ => hk_.1)); have n1_ := zA (Kd.R_mono (ok' := fun k_ => some k_ ≠ (v427 : Value).ownBlock) (Kd.R_keptB ((Kd.R_apart' HO_10.out (Kd.R_typed HO_12.out) (by decide))) hkp (fun k_ hk_ hs_ => (hk_.2) hs_)) (fun k_ hk_ => hk_.1.1)); have n2_ := zA (Kd.R_reok rfl hy0 (fun k_ e_ => HO_12.out.1 k_ e_)); have n3_ := zA (Kd.R_mono (ok' := fun k_ => some k_ ≠ (v413 : Value).ownBlock) (Kd.R_keptB ((Kd.R_apart' HO_14.out (Kd.R_typed HO_12.out) (by decide))) hkp (fun k_ hk_ hs_ => (hk_.2) hs_)) (fun k_ hk_ => hk_.1.1)); have n4_ := zA (Kd.R_mono (ok' := fun k_ => True) (Kd.R_keptB ((Kd.R_apart' HO_420001.out (Kd.R_typed HO_12.out) (by decide))) hkp (fun k_ hk_ hs_ => (hk_.2) hs_)) (fun k_ hk_ => trivial)); have n5_ := zA (blk_kept (bA_ BK399) hkp (fun hs_ => (fun e_ => (Kd.R_ne HO_12.out BK399.out (by decide)) e_) hs_)); have n6_ := zA (blk_kept (bA_ BK400) hkp (fun hs_ => (fun e_ => (Kd.R_ne HO_12.out BK400.out (by decide)) e_) hs_)); have n7_ := zA (blk_kept (bA_ BK419) hkp (fun hs_ => (fun e_ => (Kd.R_ne HO_12.out BK419.out (by decide)) e_) hs_)); have n8_ := zA (hb); clear HO_8; clear HO_10; clear HO_12; clear HO_14; clear HO_420001; clear BK399; clear BK400; clear BK419; clear HB; have HO_8 := n0_; have HO_10 := n1_; have HO_12 := n2_; have HO_14 := n3_; have HO_420001 := n4_; have BK399 := n5_; have BK400 := n6_; have BK419 := n7_; have HB := n8_; clear n0_ n1_ n2_ n3_ n4_ n5_ n6_ n7_ n8_; (try clear hb); (try clear hkp); (try clear hy0); obtain ⟨Ao136, co136, eo136⟩ := Kd.R_slice HO_14.out; subst eo136) | ((with_reducible refine gate_callee (f := 27) rfl ?_); refine goesL_ (some 94) rfl rfl Try.func27 (by kernel_rfl) rfl #[.slice Ao136 t426.length co136, .int .i64 t440] rfl (by (try simp only [List.map_toArray, List.map_cons, List.map_nil]); first | done | rfl | (simp only [List.length_drop, List.length_take]; rfl)) ?_; (with_reducible refine (laws_markIntS.calls kj58 (fun k_ => some k_ = (.slice Ao136 t426.length co136 : Value).ownBlock) (.slice Ao136 t426.length co136) t426 t440 t442 t443 w _ ?side1 ?side2 A86.out).mono ?_); (case side1 => repeat (first | (with_reducible first | exact HB.out | apply zR | apply zP | apply zQ | refine zS ?_ GE399.out | refine zS ?_ GE400.out | refine zS ?_ GE419.out) | exact HB.out)); (case side2 => exact Kd.R_tight rfl HO_14.out); rintro e w137 ⟨rfl, hy0, hb, hkp⟩; refine ⟨_, rfl, ?_⟩; have n0_ := zA (Kd.R_mono (ok' := fun k_ => some k_ ≠ (.slice Ao134 t422.length co134 : Value).ownBlock) (Kd.R_keptB ((Kd.R_apart' HO_8.out (Kd.R_typed HO_14.out) (by decide))) hkp (fun k_ hk_ hs_ => (hk_.2) hs_)) (fun k_ hk_ => hk_.1.1)); have n1_ := zA (Kd.R_mono (ok' := fun k_ => some k_ ≠ (.slice Ao136 t426.length co136 : Value).ownBlock) (Kd.R_keptB (HO_10.out) hkp (fun k_ hk_ hs_ => (hk_) hs_)) (fun k_ hk_ => hk_.1)); have n2_ := zA (Kd.R_mono (ok' := fun k_ => some k_ ≠ (v409 : Value).ownBlock) (Kd.R_keptB ((Kd.R_apart' HO_12.out (Kd.R_typed HO_14.out) (by decide))) hkp (fun k_ hk_ hs_ => (hk_.2) hs_)) (fun k_ hk_ => hk_.1.1)); have n3_ := zA (Kd.R_reok rfl hy0 (fun k_ e_ => HO_14.out.1 k_ e_)); have n4_ := zA (Kd.R_mono (ok' := fun k_ => True) (Kd.R_keptB ((Kd.R_apart' HO_420001.out (Kd.R_typed HO_14.out) (by decide))) hkp (fun k_ hk_ hs_ => (hk_.2) hs_)) (fun k_ hk_ => trivial)); have n5_ := zA (blk_kept (bA_ BK399) hkp (fun hs_ => (fun e_ => (Kd.R_ne HO_14.out BK399.out (by decide)) e_) hs_)); have n6_ := zA (blk_kept (bA_ BK400) hkp (fun hs_ => (fun e_ => (Kd.R_ne HO_14.out BK400.out (by decide)) e_) hs_)); have n7_ := zA (blk_kept (bA_ BK419) hkp (fun hs_ => (fun e_ => (Kd.R_ne HO_14.out BK419.out (by decide)) e_) hs_)); have n8_ := zA (hb); clear HO_8; clear HO_10; clear HO_12; clear HO_14; clear HO_420001; clear BK399; clear BK400; clear BK419; clear HB; have HO_8 := n0_; have HO_10 := n1_; have HO_12 := n2_; have HO_14 := n3_; have HO_420001 := n4_; have BK399 := n5_; have BK400 := n6_; have BK419 := n7_; have HB := n8_; clear n0_ n1_ n2_ n3_ n4_ n5_ n6_ n7_ n8_; (try clear hb); (try clear hkp); (try clear hy0)) | ((with_reducible refine gate_callee (f := 28) rfl ?_); refine goesL_ (some 97) rfl rfl Try.func28 (by kernel_rfl) rfl #[.slice Ao134 t441.length co134, .int .i64 1] rfl (by (try simp only [List.map_toArray, List.map_cons, List.map_nil]); first | done | (rw [show t441.length = t422.length from (zK HO_12.out).1.symm] <;> rfl) | rfl | (simp only [List.length_drop, List.length_take]; rfl)) ?_; (with_reducible refine (laws_heldPointS.calls kj58 _ _ t441 1 t444 _ ?side1 ?side2 A87.out).mono ?_); (case side1 => repeat (first | exact (zK HO_12.out).2.2 | (with_reducible refine zI ?_ _) | (with_reducible refine zH ?_ _) | (with_reducible refine zJ ?_))); (case side2 => rw [show t441.length = t422.length from (zK HO_12.out).1.symm]; exact (zK HO_12.out).2.1); rintro e w' ⟨rfl, ⟨nd, rfl⟩⟩; refine ⟨_, rfl, ?_⟩) | ((with_reducible refine gate_callee (f := 29) rfl ?_); refine goesL_ (some 102) rfl rfl Try.func29 (by kernel_rfl) rfl #[.slice Ao136 t443.length co136, .int .i64 t444] rfl (by (try simp only [List.map_toArray, List.map_cons, List.map_nil]); first | done | (rw [show t443.length = t426.length from (zK HO_14.out).1.symm] <;> rfl) | rfl | (simp only [List.length_drop, List.length_take]; rfl)) ?_; (with_reducible refine (laws_heldIntS.calls kj58 _ _ t443 t444 t445 _ ?side1 ?side2 A93.out).mono ?_); (case side1 => repeat (first | exact (zK HO_14.out).2.2 | (with_reducible refine zI ?_ _) | (with_reducible refine zH ?_ _) | (with_reducible refine zJ ?_))); (case side2 => rw [show t443.length = t426.length from (zK HO_14.out).1.symm]; exact (zK HO_14.out).2.1); rintro e w' ⟨rfl, ⟨nd, rfl⟩⟩; refine ⟨_, rfl, ?_⟩))
            go_ret
            exact ⟨by first | rfl | (simp [errW_none, errW_some] <;> rfl) | (simp [*, errW_none, errW_some] <;> rfl), bB_ HB⟩
     ·replace c57 := Bool.eq_false_iff.mpr c57
      subst c57
      have H1 : (some false) = some r := by rw [if_neg (show ¬ (false = true) by decide)] at H; exact H
      clear H
      have H := H1
      clear H1
      obtain rfl := Option.some.inj H
      try go_wp2
      have n0_ := zA (zG HO_8.out)
      have n1_ := zA (zG HO_10.out)
      have n2_ := zA (zG HO_12.out)
      have n3_ := zA (zG HO_14.out)
      have n4_ := zA (zG HO_420001.out)
      have n5_ := zA (zN BK399.out)
      have n6_ := zA (zN BK400.out)
      have n7_ := zA (zN BK419.out)
      have n8_ := zA (zQ HB.out)
      clear HO_8
      clear HO_10
      clear HO_12
      clear HO_14
      clear HO_420001
      clear BK399
      clear BK400
      clear BK419
      clear HB
      have HO_8 := n0_
      have HO_10 := n1_
      have HO_12 := n2_
      have HO_14 := n3_
      have HO_420001 := n4_
      have BK399 := n5_
      have BK400 := n6_
      have BK419 := n7_
      have HB := n8_
      clear n0_ n1_ n2_ n3_ n4_ n5_ n6_ n7_ n8_
      refine start_ (n := 5) (S := fun w' => w'.cell? ⟨gb419, 0, none⟩ = some (.int .i64 t415) ∧ w'.cell? ⟨gb419, 1, none⟩ = some (.slice Ao34 t416.length co34) ∧ w'.cell? ⟨gb399, 0, none⟩ = some (.int .i64 a0_0) ∧ w'.cell? ⟨gb399, 1, none⟩ = some (.slice A0_1 l0_1.length c0_1)) (ds := []) #[false, false, false, false, false] (by kernel_rfl) rfl rfl ⟨(blk_cell BK419.out 0).trans rfl, (blk_cell BK419.out 1).trans rfl, (blk_cell BK399.out 0).trans rfl, (blk_cell BK399.out 1).trans rfl⟩ (fun hHeld => ?_)
      generalize wc.drew = w138 at HO_8 HO_10 HO_12 HO_14 HO_420001 BK399 BK400 BK419 HB hHeld ⊢
      refine take_ (i := 0) (N := some 62) (v := ?_) (a' := ?_) #[true, false, false, false, false] rfl rfl (by kernel_rfl) (fun _ _ _ h => h) (Or.inl ⟨by rfl, ?_⟩) hHeld ?_ ?_
      rotate_left
      ·rintro w' ⟨s0, s1, s2, s3⟩
       go_simp
       with_reducible rfl
      rotate_left
      ·simp only [Act.put, zB, zC, zD, i64_w, i32_w]
       rfl
      refine take_ (i := 1) (N := some 63) (v := ?_) (a' := ?_) #[true, true, false, false, false] rfl rfl (by kernel_rfl) (fun _ _ _ h => h) (Or.inl ⟨by rfl, ?_⟩) hHeld ?_ ?_
      rotate_left
      ·rintro w' ⟨s0, s1, s2, s3⟩
       go_simp
       with_reducible rfl
      rotate_left
      ·simp only [Act.put, zB, zC, zD, i64_w, i32_w]
       rfl
      refine one_ (i := 2) (N := some 64) #[true, true, true, false, false] rfl rfl (by kernel_rfl) (by decide) (fun K hK => ?_)
      refine goes_ Try.func17 (by kernel_rfl) rfl #[.agg #[.int .i64 a0_0, .slice A0_1 l0_1.length c0_1]] (by rfl) rfl rfl (by (try simp only [List.map_toArray, List.map_cons, List.map_nil]); first | done | rfl | (simp only [List.length_drop, List.length_take]; rfl)) ?_
      with_reducible refine (laws_toSketch.calls kj16 a0_0 _ _ l0_1 t431 t432 _ ?side1 ?side2 A55.out).mono ?_
      (case side1 => repeat (first | exact (Kd.C_below HR0_1.out HB.out) | (with_reducible refine zI ?_ _) | (with_reducible refine zH ?_ _) | (with_reducible refine zJ ?_)))
      (case side2 => exact HC0_1.out)
      rintro e w139 ⟨v433, rfl, ho0, hb⟩
      refine ⟨_, rfl, ?_⟩
      have n0_ := zA (zL (bC_ HO_8) hb)
      have n1_ := zA (zL (bC_ HO_10) hb)
      have n2_ := zA (zL (bC_ HO_12) hb)
      have n3_ := zA (zL (bC_ HO_14) hb)
      have n4_ := zA (Kd.R_elder' (bC_ HO_420001) (Kd.R_base ho0) hb)
      have n5_ := zA (Kd.R_lower (Kd.R_new' ho0 (Kd.R_lt (bC_ HO_420001))) (zT (bB_ HB)))
      have n6_ := zA (zU (g := gb399) (o := .cells #[.int .i64 a0_0, .slice A0_1 l0_1.length c0_1] 39 (0, 0)) (bA_ BK399) hb)
      have n7_ := zA (zU (g := gb400) (o := .cells #[.int .i64 a2_0, .int .i64 a2_1] 53 (0, 0)) (bA_ BK400) hb)
      have n8_ := zA (zU (g := gb419) (o := .cells #[.int .i64 t415, .slice Ao34 t416.length co34] 25 (0, 0)) (bA_ BK419) hb)
      have n9_ := zA (below_step (bB_ HB) hb)
      clear HO_8
      clear HO_10
      clear HO_12
      clear HO_14
      clear HO_420001
      clear BK399
      clear BK400
      clear BK419
      clear HB
      have HO_8 := n0_
      have HO_10 := n1_
      have HO_12 := n2_
      have HO_14 := n3_
      have HO_420001 := n4_
      have HO434 := n5_
      have BK399 := n6_
      have BK400 := n7_
      have BK419 := n8_
      have HB := n9_
      clear n0_ n1_ n2_ n3_ n4_ n5_ n6_ n7_ n8_ n9_
      (try clear hb)
      (try clear hb2)
      (try clear hk)
      (try clear hi)
      (try clear ho0)
      obtain ⟨Ao140, co140, eo140⟩ := Kd.R_slice HO434.out
      (first | subst eo140 | (injection eo140 with f1_ f2_ f3_; have f4_ := f1_.symm; have f5_ := f3_.symm; clear f1_ f2_ f3_; subst f4_; subst f5_))
      refine hK.out _ _ ⟨(blk_cell BK419.out 0).trans rfl, (blk_cell BK419.out 1).trans rfl, (blk_cell BK399.out 0).trans rfl, (blk_cell BK399.out 1).trans rfl⟩ (fun hHeld => ?_)
      clear hK K
      refine norm_ (a' := ?_) ?_ ?_
      rotate_left
      ·show Act.put _ (some 64) _ = _
       simp only [Act.put, zB, zC, zD, i64_w, i32_w]
       rfl
      refine one_ (i := 3) (N := some 65) #[true, true, true, true, false] rfl rfl (by kernel_rfl) (by decide) (fun K hK => ?_)
      refine goes_ Try.func19 (by kernel_rfl) rfl #[.agg #[.int .i64 t415, .slice Ao34 t416.length co34], .agg #[.int .i64 t431, .slice Ao140 t432.length co140]] (by rfl) rfl rfl (by (try simp only [List.map_toArray, List.map_cons, List.map_nil]); first | done | rfl | (simp only [List.length_drop, List.length_take]; rfl)) ?_
      with_reducible refine (laws_eqSketch.calls kj16 t415 _ _ t416 t431 _ _ t432 false _ ?side1 ?side2 ?side3 ?side4 A56.out).mono ?_
      (case side1 => repeat (first | exact (zK HO_420001.out).2.2 | (with_reducible refine zI ?_ _) | (with_reducible refine zH ?_ _) | (with_reducible refine zJ ?_)))
      (case side2 => exact (zK HO_420001.out).2.1)
      (case side3 => repeat (first | exact (zK HO434.out).2.2 | (with_reducible refine zI ?_ _) | (with_reducible refine zH ?_ _) | (with_reducible refine zJ ?_)))
      (case side4 => exact (zK HO434.out).2.1)
      rintro e w141 ⟨rfl, hb⟩
      refine ⟨_, rfl, ?_⟩
      have n0_ := zA (zL (bC_ HO_8) hb)
      have n1_ := zA (zL (bC_ HO_10) hb)
      have n2_ := zA (zL (bC_ HO_12) hb)
      have n3_ := zA (zL (bC_ HO_14) hb)
      have n4_ := zA (zL (bC_ HO_420001) hb)
      have n5_ := zA (zL (bC_ HO434) hb)
      have n6_ := zA (zU (g := gb399) (o := .cells #[.int .i64 a0_0, .slice A0_1 l0_1.length c0_1] 39 (0, 0)) (bA_ BK399) hb)
      have n7_ := zA (zU (g := gb400) (o := .cells #[.int .i64 a2_0, .int .i64 a2_1] 53 (0, 0)) (bA_ BK400) hb)
      have n8_ := zA (zU (g := gb419) (o := .cells #[.int .i64 t415, .slice Ao34 t416.length co34] 25 (0, 0)) (bA_ BK419) hb)
      have n9_ := zA (below_step (bB_ HB) hb)
      clear HO_8
      clear HO_10
      clear HO_12
      clear HO_14
      clear HO_420001
      clear HO434
      clear BK399
      clear BK400
      clear BK419
      clear HB
      have HO_8 := n0_
      have HO_10 := n1_
      have HO_12 := n2_
      have HO_14 := n3_
      have HO_420001 := n4_
      have HO434 := n5_
      have BK399 := n6_
      have BK400 := n7_
      have BK419 := n8_
      have HB := n9_
      clear n0_ n1_ n2_ n3_ n4_ n5_ n6_ n7_ n8_ n9_
      (try clear hb)
      (try clear hb2)
      (try clear hk)
      (try clear hi)
      refine hK.out _ _ ⟨(blk_cell BK419.out 0).trans rfl, (blk_cell BK419.out 1).trans rfl, (blk_cell BK399.out 0).trans rfl, (blk_cell BK399.out 1).trans rfl⟩ (fun hHeld => ?_)
      clear hK K
      refine norm_ (a' := ?_) ?_ ?_
      rotate_left
      ·show Act.put _ (some 65) _ = _
       simp only [Act.put, zB, zC, zD, i64_w, i32_w]
       rfl
      refine pure_ (i := 4) (N := some 66) (v := ?_) (a' := ?_) #[true, true, true, true, true] rfl rfl (by kernel_rfl) (fun _ _ _ h => h) (Or.inl ⟨by rfl, ?_⟩) ?_ ?_
      rotate_left
      ·intro w'
       go_simp
       with_reducible rfl
      rotate_left
      ·simp only [Act.put, zB, zC, zD, i64_w, i32_w]
       rfl
      refine done_ (by kernel_rfl) ?_
      try go_wp2
      go_ret
      exact ⟨by first | rfl | (simp [errW_none, errW_some] <;> rfl) | (simp [*, errW_none, errW_some] <;> rfl), bB_ HB⟩

end Go.Proofs.Ytnbkdfnlggmopaa.PFnExactSketchMove
