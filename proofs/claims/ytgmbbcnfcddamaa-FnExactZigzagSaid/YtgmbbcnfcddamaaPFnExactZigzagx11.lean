/- Written for this claim by a program of this session: the functions that the law reaches, each with its contract. -/
import Derived.Test.YtgmbbcnfcddamaaPFnExactZigzagx0
import Derived.Test.YtgmbbcnfcddamaaPFnExactZigzagx1
import Derived.Test.YtgmbbcnfcddamaaPFnExactZigzagx5
import Derived.Test.YtgmbbcnfcddamaaPFnExactZigzagx9
import Derived.Test.YtgmbbcnfcddamaaPFnExactZigzagx10
namespace Go.Proofs.Ytgmbbcnfcddamaa.PFnExactZigzag
open Go.RowKit Go.Proofs.YtgmbbcnfcddamaaW.PrintWords Go.Proofs.YtgmbbcnfcddamaaW.PrintLast Go.Proofs.YtgmbbcnfcddamaaW.PrintMore
open Go.Proofs.YtgmbbcnfcddamaaW.PrintWords.Aside0 renaming mk → zA
open List renaming setIfInBounds_toArray → zB, set_cons_zero → zC, set_cons_succ → zD
open Go.Proofs.YtgmbbcnfcddamaaW.PrintWords.Kd renaming R_drewN → zE, R_alloc → zF, R_drew → zG, C_drewN → zH, C_alloc → zI, C_drew → zJ, R_reads' → zK, R_below → zL
open Go.Proofs.YtgmbbcnfcddamaaW.PrintWords renaming blk_drewN → zM, blk_drew → zN, blk_alloc → zO, pw_below_drewN → zP, below_drew1 → zQ, below_alloc → zR, below_set → zS, below_size → zT, blk_below → zU
attribute [local go_sem] i64_w max2_int min2_int max_two min_two max_three min_three max_four min_four
set_option linter.unusedVariables false
set_option linter.unusedSimpArgs false

mutual
def laws_FnExactZigzag.j0 : Nat → Int → Int → List (S61) → Int → List (S61) → Int → Bool → Int → Int → List Int → Int → Int → List Int → Int → Int → List Int → Int → Int → List Int → Option (Bool)
 | 0, _, _, _, _, _, _, _, _, _, _, _, _, _, _, _, _, _, _, _ => none
 | k + 1, x2, x3, x10, x11, x14, x15, x61, x314000, x314001, x314002, x315000, x315001, x315002, x337000, x337001, x337002, x343000, x343001, x343002 => if x61 = true then (some false) else ((laws_toField.f k x314000 x314001 x314002).bind fun bt348 => ((laws_eqField.f k x337000 x337001 x337002 bt348.1 bt348.2.1 bt348.2.2).bind fun t353 => (if t353 = true then ((laws_toField.f k x315000 x315001 x315002).bind fun bt354 => ((laws_eqField.f k x343000 x343001 x343002 bt354.1 bt354.2.1 bt354.2.2).bind fun t359 => (if t359 = true then ((laws_markField.f k x337000 x337001 x337002 1).bind fun bt360 => ((laws_markField.f k x343000 x343001 x343002 bt360.1).bind fun bt362 => (if bt362.1 < 0 then (laws_FnExactZigzag.j1 k x2 x3 x10 x11 x14 true x314000 x314001 x314002 x315000 x315001 x315002) else ((laws_eqMoveS.f k x14 x10).bind fun t364 => (if t364 = true then (laws_FnExactZigzag.j1 k x2 x3 x10 x11 x14 (x15 != x11) x314000 x314001 x314002 x315000 x315001 x315002) else (laws_FnExactZigzag.j1 k x2 x3 x10 x11 x14 true x314000 x314001 x314002 x315000 x315001 x315002)))))) else (some false)))) else (some false))))
def laws_FnExactZigzag.j1 : Nat → Int → Int → List (S61) → Int → List (S61) → Bool → Int → Int → List Int → Int → Int → List Int → Option (Bool)
 | 0, _, _, _, _, _, _, _, _, _, _, _, _ => none
 | k + 1, x2, x3, x10, x11, x14, x90, x314000, x314001, x314002, x315000, x315001, x315002 => if x90 = true then (some false) else ((laws_markMoveS.f k x14 1).bind fun bt365 => ((laws_heldMoveS.f k bt365.2 1).bind fun t367 => (if t367 < 0 then (some false) else (if t367 = bt365.1 then ((laws_toField.f k x314000 x314001 x314002).bind fun bt368 => ((laws_toField.f k x315000 x315001 x315002).bind fun bt373 => ((impl_Zigzag.f k bt368.1 bt368.2.1 bt368.2.2 bt373.1 bt373.2.1 bt373.2.2 x2 x3).bind fun bt378 => ((laws_eqMoveS.f k bt378.1 x10).bind fun t382 => (if t382 = true then (laws_FnExactZigzag.j2 k bt365.2 bt365.1 (bt378.2 != x11)) else (laws_FnExactZigzag.j2 k bt365.2 bt365.1 true)))))) else (some false)))))
def laws_FnExactZigzag.j2 : Nat → List (S61) → Int → Bool → Option (Bool)
 | 0, _, _, _ => none
 | k + 1, x14, x17, x120 => if x120 = true then (some false) else ((laws_heldMoveS.f k x14 1).bind fun t383 => (if t383 < 0 then (some false) else (if t383 = x17 then (some true) else (some false))))
end
def laws_FnExactZigzag.f (k : Nat) (a0_0 : Int) (a0_1 : Int) (l0_2 : List Int) (a1_0 : Int) (a1_1 : Int) (l1_2 : List Int) (a2 : Int) (a3 : Int) : Option (Bool) := (laws_szField.f a0_0 a0_1 l0_2 1048576).bind fun t315 => (if t315 < 0 then (some true) else ((laws_szField.f a1_0 a1_1 l1_2 t315).bind fun t316 => (if t316 < 0 then (some true) else ((laws_toField.f k a0_0 a0_1 l0_2).bind fun bt317 => ((laws_toField.f k a1_0 a1_1 l1_2).bind fun bt322 => ((spec_Zigzag.f k bt317.1 bt317.2.1 bt317.2.2 bt322.1 bt322.2.1 bt322.2.2 a2 a3).bind fun bt327 => ((laws_toField.f k a0_0 a0_1 l0_2).bind fun bt331 => ((laws_toField.f k a1_0 a1_1 l1_2).bind fun bt337 => ((impl_Zigzag.f k bt331.1 bt331.2.1 bt331.2.2 bt337.1 bt337.2.1 bt337.2.2 a2 a3).bind fun bt343 => ((laws_eqMoveS.f k bt343.1 bt327.1).bind fun t347 => (if t347 = true then (laws_FnExactZigzag.j0 k a2 a3 bt327.1 bt327.2 bt343.1 bt343.2 (bt343.2 != bt327.2) a0_0 a0_1 l0_2 a1_0 a1_1 l1_2 bt331.1 bt331.2.1 bt331.2.2 bt337.1 bt337.2.1 bt337.2.2) else (laws_FnExactZigzag.j0 k a2 a3 bt327.1 bt327.2 bt343.1 bt343.2 true a0_0 a0_1 l0_2 a1_0 a1_1 l1_2 bt331.1 bt331.2.1 bt331.2.2 bt337.1 bt337.2.1 bt337.2.2))))))))))))
theorem laws_FnExactZigzag.mono_l : ∀ k, (∀ y0 y1 y2 y3 y4 y5 y6 y7 y8 y9 y10 y11 y12 y13 y14 y15 y16 y17 y18, LeO (laws_FnExactZigzag.j0 k y0 y1 y2 y3 y4 y5 y6 y7 y8 y9 y10 y11 y12 y13 y14 y15 y16 y17 y18) (laws_FnExactZigzag.j0 (k + 1) y0 y1 y2 y3 y4 y5 y6 y7 y8 y9 y10 y11 y12 y13 y14 y15 y16 y17 y18)) ∧ (∀ y0 y1 y2 y3 y4 y5 y6 y7 y8 y9 y10 y11, LeO (laws_FnExactZigzag.j1 k y0 y1 y2 y3 y4 y5 y6 y7 y8 y9 y10 y11) (laws_FnExactZigzag.j1 (k + 1) y0 y1 y2 y3 y4 y5 y6 y7 y8 y9 y10 y11)) ∧ (∀ y0 y1 y2, LeO (laws_FnExactZigzag.j2 k y0 y1 y2) (laws_FnExactZigzag.j2 (k + 1) y0 y1 y2))
 | 0 => ⟨fun _ _ _ _ _ _ _ _ _ _ _ _ _ _ _ _ _ _ _ r h => by simp [laws_FnExactZigzag.j0] at h, fun _ _ _ _ _ _ _ _ _ _ _ _ r h => by simp [laws_FnExactZigzag.j1] at h, fun _ _ _ r h => by simp [laws_FnExactZigzag.j2] at h⟩
 | k + 1 => by
  obtain ⟨ih0, ih1, ih2⟩ := laws_FnExactZigzag.mono_l k
  refine ⟨?_, ?_, ?_⟩
  ·intro y0 y1 y2 y3 y4 y5 y6 y7 y8 y9 y10 y11 y12 y13 y14 y15 y16 y17 y18
   unfold laws_FnExactZigzag.j0
   repeat' first
   | (with_reducible exact ih0 _ _ _ _ _ _ _ _ _ _ _ _ _ _ _ _ _ _ _)
   | (with_reducible exact ih1 _ _ _ _ _ _ _ _ _ _ _ _)
   | (with_reducible exact ih2 _ _ _)
   | (with_reducible exact impl_Zigzag.mono _ _ _ _ _ _ _ _ _)
   | (with_reducible exact laws_eqField.mono _ _ _ _ _ _ _)
   | (with_reducible exact laws_eqMoveS.mono _ _ _)
   | (with_reducible exact laws_heldMoveS.mono _ _ _)
   | (with_reducible exact laws_markField.mono _ _ _ _ _)
   | (with_reducible exact laws_markMoveS.mono _ _ _)
   | (with_reducible exact laws_toField.mono _ _ _ _)
   | (with_reducible exact spec_Zigzag.mono _ _ _ _ _ _ _ _ _)
   | (with_reducible exact LeO.refl _)
   | (with_reducible exact LeO.none _)
   | (with_reducible refine LeO.ite ?_ ?_)
   | (with_reducible refine LeO.bind ?_ (fun _ => ?_))
   | exact ih0 _ _ _ _ _ _ _ _ _ _ _ _ _ _ _ _ _ _ _
   | exact ih1 _ _ _ _ _ _ _ _ _ _ _ _
   | exact ih2 _ _ _
   | exact impl_Zigzag.mono _ _ _ _ _ _ _ _ _
   | exact laws_eqField.mono _ _ _ _ _ _ _
   | exact laws_eqMoveS.mono _ _ _
   | exact laws_heldMoveS.mono _ _ _
   | exact laws_markField.mono _ _ _ _ _
   | exact laws_markMoveS.mono _ _ _
   | exact laws_toField.mono _ _ _ _
   | exact spec_Zigzag.mono _ _ _ _ _ _ _ _ _
   | exact LeO.none _
   | refine LeO.ite ?_ ?_
   | refine LeO.bind ?_ (fun _ => ?_)
  ·intro y0 y1 y2 y3 y4 y5 y6 y7 y8 y9 y10 y11
   unfold laws_FnExactZigzag.j1
   repeat' first
   | (with_reducible exact ih0 _ _ _ _ _ _ _ _ _ _ _ _ _ _ _ _ _ _ _)
   | (with_reducible exact ih1 _ _ _ _ _ _ _ _ _ _ _ _)
   | (with_reducible exact ih2 _ _ _)
   | (with_reducible exact impl_Zigzag.mono _ _ _ _ _ _ _ _ _)
   | (with_reducible exact laws_eqField.mono _ _ _ _ _ _ _)
   | (with_reducible exact laws_eqMoveS.mono _ _ _)
   | (with_reducible exact laws_heldMoveS.mono _ _ _)
   | (with_reducible exact laws_markField.mono _ _ _ _ _)
   | (with_reducible exact laws_markMoveS.mono _ _ _)
   | (with_reducible exact laws_toField.mono _ _ _ _)
   | (with_reducible exact spec_Zigzag.mono _ _ _ _ _ _ _ _ _)
   | (with_reducible exact LeO.refl _)
   | (with_reducible exact LeO.none _)
   | (with_reducible refine LeO.ite ?_ ?_)
   | (with_reducible refine LeO.bind ?_ (fun _ => ?_))
   | exact ih0 _ _ _ _ _ _ _ _ _ _ _ _ _ _ _ _ _ _ _
   | exact ih1 _ _ _ _ _ _ _ _ _ _ _ _
   | exact ih2 _ _ _
   | exact impl_Zigzag.mono _ _ _ _ _ _ _ _ _
   | exact laws_eqField.mono _ _ _ _ _ _ _
   | exact laws_eqMoveS.mono _ _ _
   | exact laws_heldMoveS.mono _ _ _
   | exact laws_markField.mono _ _ _ _ _
   | exact laws_markMoveS.mono _ _ _
   | exact laws_toField.mono _ _ _ _
   | exact spec_Zigzag.mono _ _ _ _ _ _ _ _ _
   | exact LeO.none _
   | refine LeO.ite ?_ ?_
   | refine LeO.bind ?_ (fun _ => ?_)
  ·intro y0 y1 y2
   unfold laws_FnExactZigzag.j2
   repeat' first
   | (with_reducible exact ih0 _ _ _ _ _ _ _ _ _ _ _ _ _ _ _ _ _ _ _)
   | (with_reducible exact ih1 _ _ _ _ _ _ _ _ _ _ _ _)
   | (with_reducible exact ih2 _ _ _)
   | (with_reducible exact impl_Zigzag.mono _ _ _ _ _ _ _ _ _)
   | (with_reducible exact laws_eqField.mono _ _ _ _ _ _ _)
   | (with_reducible exact laws_eqMoveS.mono _ _ _)
   | (with_reducible exact laws_heldMoveS.mono _ _ _)
   | (with_reducible exact laws_markField.mono _ _ _ _ _)
   | (with_reducible exact laws_markMoveS.mono _ _ _)
   | (with_reducible exact laws_toField.mono _ _ _ _)
   | (with_reducible exact spec_Zigzag.mono _ _ _ _ _ _ _ _ _)
   | (with_reducible exact LeO.refl _)
   | (with_reducible exact LeO.none _)
   | (with_reducible refine LeO.ite ?_ ?_)
   | (with_reducible refine LeO.bind ?_ (fun _ => ?_))
   | exact ih0 _ _ _ _ _ _ _ _ _ _ _ _ _ _ _ _ _ _ _
   | exact ih1 _ _ _ _ _ _ _ _ _ _ _ _
   | exact ih2 _ _ _
   | exact impl_Zigzag.mono _ _ _ _ _ _ _ _ _
   | exact laws_eqField.mono _ _ _ _ _ _ _
   | exact laws_eqMoveS.mono _ _ _
   | exact laws_heldMoveS.mono _ _ _
   | exact laws_markField.mono _ _ _ _ _
   | exact laws_markMoveS.mono _ _ _
   | exact laws_toField.mono _ _ _ _
   | exact spec_Zigzag.mono _ _ _ _ _ _ _ _ _
   | exact LeO.none _
   | refine LeO.ite ?_ ?_
   | refine LeO.bind ?_ (fun _ => ?_)
theorem laws_FnExactZigzag.mono : ∀ a0 a1 a2 a3 a4 a5 a6 a7 k, LeO (laws_FnExactZigzag.f k a0 a1 a2 a3 a4 a5 a6 a7) (laws_FnExactZigzag.f (k + 1) a0 a1 a2 a3 a4 a5 a6 a7) := by
 intro a0 a1 a2 a3 a4 a5 a6 a7 k
 obtain ⟨ih0, ih1, ih2⟩ := laws_FnExactZigzag.mono_l k
 unfold laws_FnExactZigzag.f
 repeat' first
   | (with_reducible exact ih0 _ _ _ _ _ _ _ _ _ _ _ _ _ _ _ _ _ _ _)
   | (with_reducible exact ih1 _ _ _ _ _ _ _ _ _ _ _ _)
   | (with_reducible exact ih2 _ _ _)
   | (with_reducible exact impl_Zigzag.mono _ _ _ _ _ _ _ _ _)
   | (with_reducible exact laws_eqField.mono _ _ _ _ _ _ _)
   | (with_reducible exact laws_eqMoveS.mono _ _ _)
   | (with_reducible exact laws_heldMoveS.mono _ _ _)
   | (with_reducible exact laws_markField.mono _ _ _ _ _)
   | (with_reducible exact laws_markMoveS.mono _ _ _)
   | (with_reducible exact laws_toField.mono _ _ _ _)
   | (with_reducible exact spec_Zigzag.mono _ _ _ _ _ _ _ _ _)
   | (with_reducible exact LeO.refl _)
   | (with_reducible exact LeO.none _)
   | (with_reducible refine LeO.ite ?_ ?_)
   | (with_reducible refine LeO.bind ?_ (fun _ => ?_))
   | exact ih0 _ _ _ _ _ _ _ _ _ _ _ _ _ _ _ _ _ _ _
   | exact ih1 _ _ _ _ _ _ _ _ _ _ _ _
   | exact ih2 _ _ _
   | exact impl_Zigzag.mono _ _ _ _ _ _ _ _ _
   | exact laws_eqField.mono _ _ _ _ _ _ _
   | exact laws_eqMoveS.mono _ _ _
   | exact laws_heldMoveS.mono _ _ _
   | exact laws_markField.mono _ _ _ _ _
   | exact laws_markMoveS.mono _ _ _
   | exact laws_toField.mono _ _ _ _
   | exact spec_Zigzag.mono _ _ _ _ _ _ _ _ _
   | exact LeO.none _
   | refine LeO.ite ?_ ?_
   | refine LeO.bind ?_ (fun _ => ?_)
def laws_FnExactZigzag.T8 : Bool × List (List Nat × List Nat) := (true, [([], []), ([0], [0]), ([], []), ([2, 1], [2]), ([], []), ([], []), ([1, 3, 4, 5, 3], [1, 3, 4, 5]), ([6], [6]), ([7], [7]), ([7], [7]), ([8, 6, 0, 1, 2, 3, 4, 5, 6, 7, 8], [8]), ([9, 10, 0, 1, 2, 3, 4, 5, 6, 7, 8, 9, 10], [9])])
def laws_FnExactZigzag.B8 : List Nat := [0, 1, 0, 7, 0, 0, 63, 127, 255, 255, 511, 2047]
theorem laws_FnExactZigzag.tab8 : rtab .any (opsOf Try.f6 8) = laws_FnExactZigzag.T8 := by kernel_rfl
theorem laws_FnExactZigzag.bits8 : waitsOk laws_FnExactZigzag.T8.2 laws_FnExactZigzag.B8 = true := by kernel_rfl
def laws_FnExactZigzag.T31 : Bool × List (List Nat × List Nat) := (true, [([], []), ([0], [0]), ([], []), ([2, 1], [2]), ([], []), ([], []), ([1, 3, 4, 5, 3], [1, 3, 4, 5]), ([6], [6]), ([7], [7]), ([7], [7]), ([8, 6, 0, 1, 2, 3, 4, 5, 6, 7, 8], [8]), ([9, 10, 0, 1, 2, 3, 4, 5, 6, 7, 8, 9, 10], [9])])
def laws_FnExactZigzag.B31 : List Nat := [0, 1, 0, 7, 0, 0, 63, 127, 255, 255, 511, 2047]
theorem laws_FnExactZigzag.tab31 : rtab .any (opsOf Try.f6 31) = laws_FnExactZigzag.T31 := by kernel_rfl
theorem laws_FnExactZigzag.bits31 : waitsOk laws_FnExactZigzag.T31.2 laws_FnExactZigzag.B31 = true := by kernel_rfl
set_option maxHeartbeats 8000000 in
set_option maxRecDepth 100000 in
theorem laws_FnExactZigzag.calls (k : Nat) (a0_0 : Int) (a0_1 : Int) (A0_2 : Option Addr) (c0_2 : Nat) (l0_2 : List Int) (a1_0 : Int) (a1_1 : Int) (A1_2 : Option Addr) (c1_2 : Nat) (l1_2 : List Int) (a2 : Int) (a3 : Int) (r : Bool) (w : World) (hr0_2 : Kd.C (Kd.int .i64) w A0_2 l0_2.length l0_2) (hc0_2 : l0_2.length ≤ c0_2) (hr1_2 : Kd.C (Kd.int .i64) w A1_2 l1_2.length l1_2) (hc1_2 : l1_2.length ≤ c1_2) (h : laws_FnExactZigzag.f k a0_0 a0_1 l0_2 a1_0 a1_1 l1_2 a2 a3 = some r) :
  Calls Try.prog 6 #[.agg #[.int .i64 a0_0, .int .i64 a0_1, .slice A0_2 l0_2.length c0_2], .agg #[.int .i64 a1_0, .int .i64 a1_1, .slice A1_2 l1_2.length c1_2], .int .i64 a2, .int .i64 a3] w fun e w' => e = .returned (.bool r) ∧ Below w.heap.size w w' := by
 have hu24 := Try.underlying24
 have hu26 := Try.underlying26
 have HR0_2 := zA hr0_2
 have HC0_2 := zA hc0_2
 clear hr0_2 hc0_2
 have HR1_2 := zA hr1_2
 have HC1_2 := zA hc1_2
 clear hr1_2 hc1_2
 have HB := zA (Below.refl w.heap.size w)
 have H : ((laws_szField.f a0_0 a0_1 l0_2 1048576).bind fun t315 => (if t315 < 0 then (some true) else ((laws_szField.f a1_0 a1_1 l1_2 t315).bind fun t316 => (if t316 < 0 then (some true) else ((laws_toField.f k a0_0 a0_1 l0_2).bind fun bt317 => ((laws_toField.f k a1_0 a1_1 l1_2).bind fun bt322 => ((spec_Zigzag.f k bt317.1 bt317.2.1 bt317.2.2 bt322.1 bt322.2.1 bt322.2.2 a2 a3).bind fun bt327 => ((laws_toField.f k a0_0 a0_1 l0_2).bind fun bt331 => ((laws_toField.f k a1_0 a1_1 l1_2).bind fun bt337 => ((impl_Zigzag.f k bt331.1 bt331.2.1 bt331.2.2 bt337.1 bt337.2.1 bt337.2.2 a2 a3).bind fun bt343 => ((laws_eqMoveS.f k bt343.1 bt327.1).bind fun t347 => (if t347 = true then (laws_FnExactZigzag.j0 k a2 a3 bt327.1 bt327.2 bt343.1 bt343.2 (bt343.2 != bt327.2) a0_0 a0_1 l0_2 a1_0 a1_1 l1_2 bt331.1 bt331.2.1 bt331.2.2 bt337.1 bt337.2.1 bt337.2.2) else (laws_FnExactZigzag.j0 k a2 a3 bt327.1 bt327.2 bt343.1 bt343.2 true a0_0 a0_1 l0_2 a1_0 a1_1 l1_2 bt331.1 bt331.2.1 bt331.2.2 bt337.1 bt337.2.1 bt337.2.2))))))))))))) = some r := h
 clear h
 replace H := Option.bind_eq_some_iff.mp H
 obtain ⟨t315, A50, H⟩ := H
 replace H : (if t315 < 0 then (some true) else ((laws_szField.f a1_0 a1_1 l1_2 t315).bind fun t316 => (if t316 < 0 then (some true) else ((laws_toField.f k a0_0 a0_1 l0_2).bind fun bt317 => ((laws_toField.f k a1_0 a1_1 l1_2).bind fun bt322 => ((spec_Zigzag.f k bt317.1 bt317.2.1 bt317.2.2 bt322.1 bt322.2.1 bt322.2.2 a2 a3).bind fun bt327 => ((laws_toField.f k a0_0 a0_1 l0_2).bind fun bt331 => ((laws_toField.f k a1_0 a1_1 l1_2).bind fun bt337 => ((impl_Zigzag.f k bt331.1 bt331.2.1 bt331.2.2 bt337.1 bt337.2.1 bt337.2.2 a2 a3).bind fun bt343 => ((laws_eqMoveS.f k bt343.1 bt327.1).bind fun t347 => (if t347 = true then (laws_FnExactZigzag.j0 k a2 a3 bt327.1 bt327.2 bt343.1 bt343.2 (bt343.2 != bt327.2) a0_0 a0_1 l0_2 a1_0 a1_1 l1_2 bt331.1 bt331.2.1 bt331.2.2 bt337.1 bt337.2.1 bt337.2.2) else (laws_FnExactZigzag.j0 k a2 a3 bt327.1 bt327.2 bt343.1 bt343.2 true a0_0 a0_1 l0_2 a1_0 a1_1 l1_2 bt331.1 bt331.2.1 bt331.2.2 bt337.1 bt337.2.1 bt337.2.2)))))))))))) = some r := H
 have A5 := zA A50
 clear A50
 by_cases c6 : t315 < 0
 ·rw [if_pos c6] at H
  have c6b0 : decide (t315 < 0) = true := decide_eq_true c6
  clear c6
  obtain rfl := Option.some.inj H
  go_enter Try.func6, Try.ntmps6
  go_wp2_with (first | ((with_reducible refine gate_dst (N := 4) rfl ?_); refine box_event ?hg (N := 4) ?hd (cs := #[.int .i64 a0_0, .int .i64 a0_1, .slice A0_2 l0_2.length c0_2]) (t := 24) ?hr ?_; (case hd => rfl); (case hg => rfl); (case hr => first | (go_simp; done) | (go_simp; rfl)); intro gb313 hg w7 hbox hb; have n0_ := zA (below_step (bB_ HB) hb); have n1_ := zA (hbox); have n2_ := zA ((by rw [hg]; exact (zT (bB_ HB)) : w.heap.size ≤ gb313)); have n3_ := zA ((by rw [hg]; exact (zT (bB_ HB)) : w.heap.size ≤ gb313)); clear HB; have HB := n0_; have BK313 := n1_; have GW313 := n2_; have GE313 := n3_; clear n0_ n1_ n2_ n3_; clear hb hbox hg) | ((with_reducible refine gate_dst (N := 5) rfl ?_); refine box_event ?hg (N := 5) ?hd (cs := #[.int .i64 a1_0, .int .i64 a1_1, .slice A1_2 l1_2.length c1_2]) (t := 24) ?hr ?_; (case hd => rfl); (case hg => rfl); (case hr => first | (go_simp; done) | (go_simp; rfl)); intro gb314 hg w8 hbox hb; have n0_ := zA (zU (g := gb313) (o := .cells #[.int .i64 a0_0, .int .i64 a0_1, .slice A0_2 l0_2.length c0_2] 24 (0, 0)) (bA_ BK313) hb); have n1_ := zA (below_step (bB_ HB) hb); have n2_ := zA (hbox); have n3_ := zA ((by rw [hg]; exact (zT (bB_ HB)) : w.heap.size ≤ gb314)); have n4_ := zA ((by rw [hg]; exact (zT (bB_ HB)) : w.heap.size ≤ gb314)); have n5_ := zA ((by rw [hg]; exact Nat.ne_of_lt (blk_lt (g := gb313) (o := .cells #[.int .i64 a0_0, .int .i64 a0_1, .slice A0_2 l0_2.length c0_2] 24 (0, 0)) (bA_ BK313)) : gb313 ≠ gb314)); have n6_ := zA ((by rw [hg]; exact Nat.ne_of_gt (blk_lt (g := gb313) (o := .cells #[.int .i64 a0_0, .int .i64 a0_1, .slice A0_2 l0_2.length c0_2] 24 (0, 0)) (bA_ BK313)) : gb314 ≠ gb313)); clear BK313; clear HB; have BK313 := n0_; have HB := n1_; have BK314 := n2_; have GW314 := n3_; have GE314 := n4_; have NB313_314 := n5_; have NB314_313 := n6_; clear n0_ n1_ n2_ n3_ n4_ n5_ n6_; clear hb hbox hg; have hnb9 := NB313_314.out; have hnc9 := NB314_313.out; have hcz10_0 : w8.cell? ⟨gb313, 0, none⟩ = some (.int .i64 a0_0) := (blk_cell BK313.out 0).trans rfl; have hcz10_1 : w8.cell? ⟨gb313, 1, none⟩ = some (.int .i64 a0_1) := (blk_cell BK313.out 1).trans rfl; have hcz10_2 : w8.cell? ⟨gb313, 2, none⟩ = some (.slice A0_2 l0_2.length c0_2) := (blk_cell BK313.out 2).trans rfl; have hfz10_0 := blk_frozen BK313.out 0; have hfz10_1 := blk_frozen BK313.out 1; have hfz10_2 := blk_frozen BK313.out 2) | ((with_reducible refine gate_callee (f := 9) rfl ?_); refine goesL_ (some 23) rfl rfl Try.func9 (by kernel_rfl) rfl #[.agg #[.int .i64 a0_0, .int .i64 a0_1, .slice A0_2 l0_2.length c0_2], .int .i64 1048576] rfl (by (try simp only [List.map_toArray, List.map_cons, List.map_nil]); first | done | rfl | (simp only [List.length_drop, List.length_take]; rfl)) ?_; (with_reducible refine (laws_szField.calls a0_0 a0_1 _ _ l0_2 1048576 t315 _ ?side1 ?side2 A5.out).mono ?_); (case side1 => repeat (first | exact (Kd.C_below HR0_2.out HB.out) | (with_reducible refine zI ?_ _) | (with_reducible refine zH ?_ _) | (with_reducible refine zJ ?_))); (case side2 => exact HC0_2.out); rintro e w11 ⟨rfl, hb⟩; refine ⟨_, rfl, ?_⟩; have n0_ := zA (zU (g := gb313) (o := .cells #[.int .i64 a0_0, .int .i64 a0_1, .slice A0_2 l0_2.length c0_2] 24 (0, 0)) (bA_ BK313) hb); have n1_ := zA (zU (g := gb314) (o := .cells #[.int .i64 a1_0, .int .i64 a1_1, .slice A1_2 l1_2.length c1_2] 24 (0, 0)) (bA_ BK314) hb); have n2_ := zA (below_step (bB_ HB) hb); clear BK313; clear BK314; clear HB; have BK313 := n0_; have BK314 := n1_; have HB := n2_; clear n0_ n1_ n2_; (try clear hb); (try clear hb2); (try clear hk); (try clear hi)))
  go_ret
  exact ⟨by first | rfl | (simp [errW_none, errW_some] <;> rfl) | (simp [*, errW_none, errW_some] <;> rfl), bB_ HB⟩
 ·rw [if_neg c6] at H
  have c6b0 : decide (t315 < 0) = false := decide_eq_false c6
  clear c6
  replace H := Option.bind_eq_some_iff.mp H
  obtain ⟨t316, A120, H⟩ := H
  replace H : (if t316 < 0 then (some true) else ((laws_toField.f k a0_0 a0_1 l0_2).bind fun bt317 => ((laws_toField.f k a1_0 a1_1 l1_2).bind fun bt322 => ((spec_Zigzag.f k bt317.1 bt317.2.1 bt317.2.2 bt322.1 bt322.2.1 bt322.2.2 a2 a3).bind fun bt327 => ((laws_toField.f k a0_0 a0_1 l0_2).bind fun bt331 => ((laws_toField.f k a1_0 a1_1 l1_2).bind fun bt337 => ((impl_Zigzag.f k bt331.1 bt331.2.1 bt331.2.2 bt337.1 bt337.2.1 bt337.2.2 a2 a3).bind fun bt343 => ((laws_eqMoveS.f k bt343.1 bt327.1).bind fun t347 => (if t347 = true then (laws_FnExactZigzag.j0 k a2 a3 bt327.1 bt327.2 bt343.1 bt343.2 (bt343.2 != bt327.2) a0_0 a0_1 l0_2 a1_0 a1_1 l1_2 bt331.1 bt331.2.1 bt331.2.2 bt337.1 bt337.2.1 bt337.2.2) else (laws_FnExactZigzag.j0 k a2 a3 bt327.1 bt327.2 bt343.1 bt343.2 true a0_0 a0_1 l0_2 a1_0 a1_1 l1_2 bt331.1 bt331.2.1 bt331.2.2 bt337.1 bt337.2.1 bt337.2.2)))))))))) = some r := H
  have A12 := zA A120
  clear A120
  by_cases c13 : t316 < 0
  ·rw [if_pos c13] at H
   have c13b0 : decide (t316 < 0) = true := decide_eq_true c13
   clear c13
   obtain rfl := Option.some.inj H
   go_enter Try.func6, Try.ntmps6
   go_wp2_with (first | ((with_reducible refine gate_dst (N := 4) rfl ?_); refine box_event ?hg (N := 4) ?hd (cs := #[.int .i64 a0_0, .int .i64 a0_1, .slice A0_2 l0_2.length c0_2]) (t := 24) ?hr ?_; (case hd => rfl); (case hg => rfl); (case hr => first | (go_simp; done) | (go_simp; rfl)); intro gb313 hg w14 hbox hb; have n0_ := zA (below_step (bB_ HB) hb); have n1_ := zA (hbox); have n2_ := zA ((by rw [hg]; exact (zT (bB_ HB)) : w.heap.size ≤ gb313)); have n3_ := zA ((by rw [hg]; exact (zT (bB_ HB)) : w.heap.size ≤ gb313)); clear HB; have HB := n0_; have BK313 := n1_; have GW313 := n2_; have GE313 := n3_; clear n0_ n1_ n2_ n3_; clear hb hbox hg) | ((with_reducible refine gate_dst (N := 5) rfl ?_); refine box_event ?hg (N := 5) ?hd (cs := #[.int .i64 a1_0, .int .i64 a1_1, .slice A1_2 l1_2.length c1_2]) (t := 24) ?hr ?_; (case hd => rfl); (case hg => rfl); (case hr => first | (go_simp; done) | (go_simp; rfl)); intro gb314 hg w15 hbox hb; have n0_ := zA (zU (g := gb313) (o := .cells #[.int .i64 a0_0, .int .i64 a0_1, .slice A0_2 l0_2.length c0_2] 24 (0, 0)) (bA_ BK313) hb); have n1_ := zA (below_step (bB_ HB) hb); have n2_ := zA (hbox); have n3_ := zA ((by rw [hg]; exact (zT (bB_ HB)) : w.heap.size ≤ gb314)); have n4_ := zA ((by rw [hg]; exact (zT (bB_ HB)) : w.heap.size ≤ gb314)); have n5_ := zA ((by rw [hg]; exact Nat.ne_of_lt (blk_lt (g := gb313) (o := .cells #[.int .i64 a0_0, .int .i64 a0_1, .slice A0_2 l0_2.length c0_2] 24 (0, 0)) (bA_ BK313)) : gb313 ≠ gb314)); have n6_ := zA ((by rw [hg]; exact Nat.ne_of_gt (blk_lt (g := gb313) (o := .cells #[.int .i64 a0_0, .int .i64 a0_1, .slice A0_2 l0_2.length c0_2] 24 (0, 0)) (bA_ BK313)) : gb314 ≠ gb313)); clear BK313; clear HB; have BK313 := n0_; have HB := n1_; have BK314 := n2_; have GW314 := n3_; have GE314 := n4_; have NB313_314 := n5_; have NB314_313 := n6_; clear n0_ n1_ n2_ n3_ n4_ n5_ n6_; clear hb hbox hg; have hnb16 := NB313_314.out; have hnc16 := NB314_313.out; have hcz17_0 : w15.cell? ⟨gb313, 0, none⟩ = some (.int .i64 a0_0) := (blk_cell BK313.out 0).trans rfl; have hcz17_1 : w15.cell? ⟨gb313, 1, none⟩ = some (.int .i64 a0_1) := (blk_cell BK313.out 1).trans rfl; have hcz17_2 : w15.cell? ⟨gb313, 2, none⟩ = some (.slice A0_2 l0_2.length c0_2) := (blk_cell BK313.out 2).trans rfl; have hfz17_0 := blk_frozen BK313.out 0; have hfz17_1 := blk_frozen BK313.out 1; have hfz17_2 := blk_frozen BK313.out 2) | ((with_reducible refine gate_callee (f := 9) rfl ?_); refine goesL_ (some 23) rfl rfl Try.func9 (by kernel_rfl) rfl #[.agg #[.int .i64 a0_0, .int .i64 a0_1, .slice A0_2 l0_2.length c0_2], .int .i64 1048576] rfl (by (try simp only [List.map_toArray, List.map_cons, List.map_nil]); first | done | rfl | (simp only [List.length_drop, List.length_take]; rfl)) ?_; (with_reducible refine (laws_szField.calls a0_0 a0_1 _ _ l0_2 1048576 t315 _ ?side1 ?side2 A5.out).mono ?_); (case side1 => repeat (first | exact (Kd.C_below HR0_2.out HB.out) | (with_reducible refine zI ?_ _) | (with_reducible refine zH ?_ _) | (with_reducible refine zJ ?_))); (case side2 => exact HC0_2.out); rintro e w18 ⟨rfl, hb⟩; refine ⟨_, rfl, ?_⟩; have n0_ := zA (zU (g := gb313) (o := .cells #[.int .i64 a0_0, .int .i64 a0_1, .slice A0_2 l0_2.length c0_2] 24 (0, 0)) (bA_ BK313) hb); have n1_ := zA (zU (g := gb314) (o := .cells #[.int .i64 a1_0, .int .i64 a1_1, .slice A1_2 l1_2.length c1_2] 24 (0, 0)) (bA_ BK314) hb); have n2_ := zA (below_step (bB_ HB) hb); clear BK313; clear BK314; clear HB; have BK313 := n0_; have BK314 := n1_; have HB := n2_; clear n0_ n1_ n2_; (try clear hb); (try clear hb2); (try clear hk); (try clear hi); have hcz19_0 : w18.cell? ⟨gb314, 0, none⟩ = some (.int .i64 a1_0) := (blk_cell BK314.out 0).trans rfl; have hcz19_1 : w18.cell? ⟨gb314, 1, none⟩ = some (.int .i64 a1_1) := (blk_cell BK314.out 1).trans rfl; have hcz19_2 : w18.cell? ⟨gb314, 2, none⟩ = some (.slice A1_2 l1_2.length c1_2) := (blk_cell BK314.out 2).trans rfl; have hfz19_0 := blk_frozen BK314.out 0; have hfz19_1 := blk_frozen BK314.out 1; have hfz19_2 := blk_frozen BK314.out 2) | ((with_reducible refine gate_callee (f := 9) rfl ?_); refine goesL_ (some 28) rfl rfl Try.func9 (by kernel_rfl) rfl #[.agg #[.int .i64 a1_0, .int .i64 a1_1, .slice A1_2 l1_2.length c1_2], .int .i64 t315] rfl (by (try simp only [List.map_toArray, List.map_cons, List.map_nil]); first | done | rfl | (simp only [List.length_drop, List.length_take]; rfl)) ?_; (with_reducible refine (laws_szField.calls a1_0 a1_1 _ _ l1_2 t315 t316 _ ?side1 ?side2 A12.out).mono ?_); (case side1 => repeat (first | exact (Kd.C_below HR1_2.out HB.out) | (with_reducible refine zI ?_ _) | (with_reducible refine zH ?_ _) | (with_reducible refine zJ ?_))); (case side2 => exact HC1_2.out); rintro e w20 ⟨rfl, hb⟩; refine ⟨_, rfl, ?_⟩; have n0_ := zA (zU (g := gb313) (o := .cells #[.int .i64 a0_0, .int .i64 a0_1, .slice A0_2 l0_2.length c0_2] 24 (0, 0)) (bA_ BK313) hb); have n1_ := zA (zU (g := gb314) (o := .cells #[.int .i64 a1_0, .int .i64 a1_1, .slice A1_2 l1_2.length c1_2] 24 (0, 0)) (bA_ BK314) hb); have n2_ := zA (below_step (bB_ HB) hb); clear BK313; clear BK314; clear HB; have BK313 := n0_; have BK314 := n1_; have HB := n2_; clear n0_ n1_ n2_; (try clear hb); (try clear hb2); (try clear hk); (try clear hi)))
   go_ret
   exact ⟨by first | rfl | (simp [errW_none, errW_some] <;> rfl) | (simp [*, errW_none, errW_some] <;> rfl), bB_ HB⟩
  ·rw [if_neg c13] at H
   have c13b0 : decide (t316 < 0) = false := decide_eq_false c13
   clear c13
   replace H := Option.bind_eq_some_iff.mp H
   obtain ⟨⟨t317, t318, t319⟩, A210, H⟩ := H
   replace H : ((laws_toField.f k a1_0 a1_1 l1_2).bind fun bt322 => ((spec_Zigzag.f k t317 t318 t319 bt322.1 bt322.2.1 bt322.2.2 a2 a3).bind fun bt327 => ((laws_toField.f k a0_0 a0_1 l0_2).bind fun bt331 => ((laws_toField.f k a1_0 a1_1 l1_2).bind fun bt337 => ((impl_Zigzag.f k bt331.1 bt331.2.1 bt331.2.2 bt337.1 bt337.2.1 bt337.2.2 a2 a3).bind fun bt343 => ((laws_eqMoveS.f k bt343.1 bt327.1).bind fun t347 => (if t347 = true then (laws_FnExactZigzag.j0 k a2 a3 bt327.1 bt327.2 bt343.1 bt343.2 (bt343.2 != bt327.2) a0_0 a0_1 l0_2 a1_0 a1_1 l1_2 bt331.1 bt331.2.1 bt331.2.2 bt337.1 bt337.2.1 bt337.2.2) else (laws_FnExactZigzag.j0 k a2 a3 bt327.1 bt327.2 bt343.1 bt343.2 true a0_0 a0_1 l0_2 a1_0 a1_1 l1_2 bt331.1 bt331.2.1 bt331.2.2 bt337.1 bt337.2.1 bt337.2.2)))))))) = some r := H
   have A21 := zA A210
   clear A210
   replace H := Option.bind_eq_some_iff.mp H
   obtain ⟨⟨t322, t323, t324⟩, A220, H⟩ := H
   replace H : ((spec_Zigzag.f k t317 t318 t319 t322 t323 t324 a2 a3).bind fun bt327 => ((laws_toField.f k a0_0 a0_1 l0_2).bind fun bt331 => ((laws_toField.f k a1_0 a1_1 l1_2).bind fun bt337 => ((impl_Zigzag.f k bt331.1 bt331.2.1 bt331.2.2 bt337.1 bt337.2.1 bt337.2.2 a2 a3).bind fun bt343 => ((laws_eqMoveS.f k bt343.1 bt327.1).bind fun t347 => (if t347 = true then (laws_FnExactZigzag.j0 k a2 a3 bt327.1 bt327.2 bt343.1 bt343.2 (bt343.2 != bt327.2) a0_0 a0_1 l0_2 a1_0 a1_1 l1_2 bt331.1 bt331.2.1 bt331.2.2 bt337.1 bt337.2.1 bt337.2.2) else (laws_FnExactZigzag.j0 k a2 a3 bt327.1 bt327.2 bt343.1 bt343.2 true a0_0 a0_1 l0_2 a1_0 a1_1 l1_2 bt331.1 bt331.2.1 bt331.2.2 bt337.1 bt337.2.1 bt337.2.2))))))) = some r := H
   have A22 := zA A220
   clear A220
   replace H := Option.bind_eq_some_iff.mp H
   obtain ⟨⟨t327, t330⟩, A230, H⟩ := H
   replace H : ((laws_toField.f k a0_0 a0_1 l0_2).bind fun bt331 => ((laws_toField.f k a1_0 a1_1 l1_2).bind fun bt337 => ((impl_Zigzag.f k bt331.1 bt331.2.1 bt331.2.2 bt337.1 bt337.2.1 bt337.2.2 a2 a3).bind fun bt343 => ((laws_eqMoveS.f k bt343.1 t327).bind fun t347 => (if t347 = true then (laws_FnExactZigzag.j0 k a2 a3 t327 t330 bt343.1 bt343.2 (bt343.2 != t330) a0_0 a0_1 l0_2 a1_0 a1_1 l1_2 bt331.1 bt331.2.1 bt331.2.2 bt337.1 bt337.2.1 bt337.2.2) else (laws_FnExactZigzag.j0 k a2 a3 t327 t330 bt343.1 bt343.2 true a0_0 a0_1 l0_2 a1_0 a1_1 l1_2 bt331.1 bt331.2.1 bt331.2.2 bt337.1 bt337.2.1 bt337.2.2)))))) = some r := H
   have A23 := zA A230
   clear A230
   replace H := Option.bind_eq_some_iff.mp H
   obtain ⟨⟨t331, t332, t333⟩, A240, H⟩ := H
   replace H : ((laws_toField.f k a1_0 a1_1 l1_2).bind fun bt337 => ((impl_Zigzag.f k t331 t332 t333 bt337.1 bt337.2.1 bt337.2.2 a2 a3).bind fun bt343 => ((laws_eqMoveS.f k bt343.1 t327).bind fun t347 => (if t347 = true then (laws_FnExactZigzag.j0 k a2 a3 t327 t330 bt343.1 bt343.2 (bt343.2 != t330) a0_0 a0_1 l0_2 a1_0 a1_1 l1_2 t331 t332 t333 bt337.1 bt337.2.1 bt337.2.2) else (laws_FnExactZigzag.j0 k a2 a3 t327 t330 bt343.1 bt343.2 true a0_0 a0_1 l0_2 a1_0 a1_1 l1_2 t331 t332 t333 bt337.1 bt337.2.1 bt337.2.2))))) = some r := H
   have A24 := zA A240
   clear A240
   replace H := Option.bind_eq_some_iff.mp H
   obtain ⟨⟨t337, t338, t339⟩, A250, H⟩ := H
   replace H : ((impl_Zigzag.f k t331 t332 t333 t337 t338 t339 a2 a3).bind fun bt343 => ((laws_eqMoveS.f k bt343.1 t327).bind fun t347 => (if t347 = true then (laws_FnExactZigzag.j0 k a2 a3 t327 t330 bt343.1 bt343.2 (bt343.2 != t330) a0_0 a0_1 l0_2 a1_0 a1_1 l1_2 t331 t332 t333 t337 t338 t339) else (laws_FnExactZigzag.j0 k a2 a3 t327 t330 bt343.1 bt343.2 true a0_0 a0_1 l0_2 a1_0 a1_1 l1_2 t331 t332 t333 t337 t338 t339)))) = some r := H
   have A25 := zA A250
   clear A250
   replace H := Option.bind_eq_some_iff.mp H
   obtain ⟨⟨t343, t346⟩, A260, H⟩ := H
   replace H : ((laws_eqMoveS.f k t343 t327).bind fun t347 => (if t347 = true then (laws_FnExactZigzag.j0 k a2 a3 t327 t330 t343 t346 (t346 != t330) a0_0 a0_1 l0_2 a1_0 a1_1 l1_2 t331 t332 t333 t337 t338 t339) else (laws_FnExactZigzag.j0 k a2 a3 t327 t330 t343 t346 true a0_0 a0_1 l0_2 a1_0 a1_1 l1_2 t331 t332 t333 t337 t338 t339))) = some r := H
   have A26 := zA A260
   clear A260
   have HC27 := zA H
   clear H
   go_enter Try.func6, Try.ntmps6
   try go_wp2_with (first | ((with_reducible refine gate_dst (N := 4) rfl ?_); refine box_event ?hg (N := 4) ?hd (cs := #[.int .i64 a0_0, .int .i64 a0_1, .slice A0_2 l0_2.length c0_2]) (t := 24) ?hr ?_; (case hd => rfl); (case hg => rfl); (case hr => first | (go_simp; done) | (go_simp; rfl)); intro gb313 hg w28 hbox hb; have n0_ := zA (below_step (bB_ HB) hb); have n1_ := zA (hbox); have n2_ := zA ((by rw [hg]; exact (zT (bB_ HB)) : w.heap.size ≤ gb313)); have n3_ := zA ((by rw [hg]; exact (zT (bB_ HB)) : w.heap.size ≤ gb313)); clear HB; have HB := n0_; have BK313 := n1_; have GW313 := n2_; have GE313 := n3_; clear n0_ n1_ n2_ n3_; clear hb hbox hg) | ((with_reducible refine gate_dst (N := 5) rfl ?_); refine box_event ?hg (N := 5) ?hd (cs := #[.int .i64 a1_0, .int .i64 a1_1, .slice A1_2 l1_2.length c1_2]) (t := 24) ?hr ?_; (case hd => rfl); (case hg => rfl); (case hr => first | (go_simp; done) | (go_simp; rfl)); intro gb314 hg w29 hbox hb; have n0_ := zA (zU (g := gb313) (o := .cells #[.int .i64 a0_0, .int .i64 a0_1, .slice A0_2 l0_2.length c0_2] 24 (0, 0)) (bA_ BK313) hb); have n1_ := zA (below_step (bB_ HB) hb); have n2_ := zA (hbox); have n3_ := zA ((by rw [hg]; exact (zT (bB_ HB)) : w.heap.size ≤ gb314)); have n4_ := zA ((by rw [hg]; exact (zT (bB_ HB)) : w.heap.size ≤ gb314)); have n5_ := zA ((by rw [hg]; exact Nat.ne_of_lt (blk_lt (g := gb313) (o := .cells #[.int .i64 a0_0, .int .i64 a0_1, .slice A0_2 l0_2.length c0_2] 24 (0, 0)) (bA_ BK313)) : gb313 ≠ gb314)); have n6_ := zA ((by rw [hg]; exact Nat.ne_of_gt (blk_lt (g := gb313) (o := .cells #[.int .i64 a0_0, .int .i64 a0_1, .slice A0_2 l0_2.length c0_2] 24 (0, 0)) (bA_ BK313)) : gb314 ≠ gb313)); clear BK313; clear HB; have BK313 := n0_; have HB := n1_; have BK314 := n2_; have GW314 := n3_; have GE314 := n4_; have NB313_314 := n5_; have NB314_313 := n6_; clear n0_ n1_ n2_ n3_ n4_ n5_ n6_; clear hb hbox hg; have hnb30 := NB313_314.out; have hnc30 := NB314_313.out; have hcz31_0 : w29.cell? ⟨gb313, 0, none⟩ = some (.int .i64 a0_0) := (blk_cell BK313.out 0).trans rfl; have hcz31_1 : w29.cell? ⟨gb313, 1, none⟩ = some (.int .i64 a0_1) := (blk_cell BK313.out 1).trans rfl; have hcz31_2 : w29.cell? ⟨gb313, 2, none⟩ = some (.slice A0_2 l0_2.length c0_2) := (blk_cell BK313.out 2).trans rfl; have hfz31_0 := blk_frozen BK313.out 0; have hfz31_1 := blk_frozen BK313.out 1; have hfz31_2 := blk_frozen BK313.out 2) | ((with_reducible refine gate_callee (f := 9) rfl ?_); refine goesL_ (some 23) rfl rfl Try.func9 (by kernel_rfl) rfl #[.agg #[.int .i64 a0_0, .int .i64 a0_1, .slice A0_2 l0_2.length c0_2], .int .i64 1048576] rfl (by (try simp only [List.map_toArray, List.map_cons, List.map_nil]); first | done | rfl | (simp only [List.length_drop, List.length_take]; rfl)) ?_; (with_reducible refine (laws_szField.calls a0_0 a0_1 _ _ l0_2 1048576 t315 _ ?side1 ?side2 A5.out).mono ?_); (case side1 => repeat (first | exact (Kd.C_below HR0_2.out HB.out) | (with_reducible refine zI ?_ _) | (with_reducible refine zH ?_ _) | (with_reducible refine zJ ?_))); (case side2 => exact HC0_2.out); rintro e w32 ⟨rfl, hb⟩; refine ⟨_, rfl, ?_⟩; have n0_ := zA (zU (g := gb313) (o := .cells #[.int .i64 a0_0, .int .i64 a0_1, .slice A0_2 l0_2.length c0_2] 24 (0, 0)) (bA_ BK313) hb); have n1_ := zA (zU (g := gb314) (o := .cells #[.int .i64 a1_0, .int .i64 a1_1, .slice A1_2 l1_2.length c1_2] 24 (0, 0)) (bA_ BK314) hb); have n2_ := zA (below_step (bB_ HB) hb); clear BK313; clear BK314; clear HB; have BK313 := n0_; have BK314 := n1_; have HB := n2_; clear n0_ n1_ n2_; (try clear hb); (try clear hb2); (try clear hk); (try clear hi); have hcz33_0 : w32.cell? ⟨gb314, 0, none⟩ = some (.int .i64 a1_0) := (blk_cell BK314.out 0).trans rfl; have hcz33_1 : w32.cell? ⟨gb314, 1, none⟩ = some (.int .i64 a1_1) := (blk_cell BK314.out 1).trans rfl; have hcz33_2 : w32.cell? ⟨gb314, 2, none⟩ = some (.slice A1_2 l1_2.length c1_2) := (blk_cell BK314.out 2).trans rfl; have hfz33_0 := blk_frozen BK314.out 0; have hfz33_1 := blk_frozen BK314.out 1; have hfz33_2 := blk_frozen BK314.out 2) | ((with_reducible refine gate_callee (f := 9) rfl ?_); refine goesL_ (some 28) rfl rfl Try.func9 (by kernel_rfl) rfl #[.agg #[.int .i64 a1_0, .int .i64 a1_1, .slice A1_2 l1_2.length c1_2], .int .i64 t315] rfl (by (try simp only [List.map_toArray, List.map_cons, List.map_nil]); first | done | rfl | (simp only [List.length_drop, List.length_take]; rfl)) ?_; (with_reducible refine (laws_szField.calls a1_0 a1_1 _ _ l1_2 t315 t316 _ ?side1 ?side2 A12.out).mono ?_); (case side1 => repeat (first | exact (Kd.C_below HR1_2.out HB.out) | (with_reducible refine zI ?_ _) | (with_reducible refine zH ?_ _) | (with_reducible refine zJ ?_))); (case side2 => exact HC1_2.out); rintro e w34 ⟨rfl, hb⟩; refine ⟨_, rfl, ?_⟩; have n0_ := zA (zU (g := gb313) (o := .cells #[.int .i64 a0_0, .int .i64 a0_1, .slice A0_2 l0_2.length c0_2] 24 (0, 0)) (bA_ BK313) hb); have n1_ := zA (zU (g := gb314) (o := .cells #[.int .i64 a1_0, .int .i64 a1_1, .slice A1_2 l1_2.length c1_2] 24 (0, 0)) (bA_ BK314) hb); have n2_ := zA (below_step (bB_ HB) hb); clear BK313; clear BK314; clear HB; have BK313 := n0_; have BK314 := n1_; have HB := n2_; clear n0_ n1_ n2_; (try clear hb); (try clear hb2); (try clear hk); (try clear hi)))
   have n0_ := zA (zN BK313.out)
   have n1_ := zA (zN BK314.out)
   have n2_ := zA (zQ HB.out)
   clear BK313
   clear BK314
   clear HB
   have BK313 := n0_
   have BK314 := n1_
   have HB := n2_
   clear n0_ n1_ n2_
   refine start_ (n := 12) (S := fun w' => w'.cell? ⟨gb313, 0, none⟩ = some (.int .i64 a0_0) ∧ w'.cell? ⟨gb313, 1, none⟩ = some (.int .i64 a0_1) ∧ w'.cell? ⟨gb313, 2, none⟩ = some (.slice A0_2 l0_2.length c0_2) ∧ w'.cell? ⟨gb314, 0, none⟩ = some (.int .i64 a1_0) ∧ w'.cell? ⟨gb314, 1, none⟩ = some (.int .i64 a1_1) ∧ w'.cell? ⟨gb314, 2, none⟩ = some (.slice A1_2 l1_2.length c1_2)) (ds := []) #[false, false, false, false, false, false, false, false, false, false, false, false] (by kernel_rfl) rfl rfl ⟨(blk_cell BK313.out 0).trans rfl, (blk_cell BK313.out 1).trans rfl, (blk_cell BK313.out 2).trans rfl, (blk_cell BK314.out 0).trans rfl, (blk_cell BK314.out 1).trans rfl, (blk_cell BK314.out 2).trans rfl⟩ (fun hHeld => ?_); refine with_tabW laws_FnExactZigzag.tab8 laws_FnExactZigzag.bits8 (fun HT_ HW_ => ?_)
   generalize w34.drew = w35 at BK313 BK314 HB hHeld ⊢
   refine pure_ (i := 4) (N := some 36) (v := ?_) (a' := ?_) #[false, false, false, false, true, false, false, false, false, false, false, false] rfl rfl (any_of HT_.out (by kernel_rfl)) (fun _ _ _ h => h) (Or.inl ⟨by rfl, ?_⟩) ?_ ?_
   rotate_left
   ·intro w'
    go_simp
    with_reducible rfl
   rotate_left
   ·simp only [Act.put, zB, zC, zD, i64_w, i32_w]
    rfl
   refine pure_ (i := 5) (N := some 37) (v := ?_) (a' := ?_) #[false, false, false, false, true, true, false, false, false, false, false, false] rfl rfl (any_of HT_.out (by kernel_rfl)) (fun _ _ _ h => h) (Or.inl ⟨by rfl, ?_⟩) ?_ ?_
   rotate_left
   ·intro w'
    go_simp
    with_reducible rfl
   rotate_left
   ·simp only [Act.put, zB, zC, zD, i64_w, i32_w]
    rfl
   refine take_ (i := 0) (N := some 32) (v := ?_) (a' := ?_) #[true, false, false, false, true, true, false, false, false, false, false, false] rfl rfl (take_ofW HT_.out HW_.out (by kernel_rfl)) (fun _ _ _ h => h) (Or.inl ⟨by rfl, ?_⟩) hHeld ?_ ?_
   rotate_left
   ·rintro w' ⟨s0, s1, s2, s3, s4, s5⟩
    go_simp
    with_reducible rfl
   rotate_left
   ·simp only [Act.put, zB, zC, zD, i64_w, i32_w]
    rfl
   refine take_ (i := 2) (N := some 34) (v := ?_) (a' := ?_) #[true, false, true, false, true, true, false, false, false, false, false, false] rfl rfl (take_ofW HT_.out HW_.out (by kernel_rfl)) (fun _ _ _ h => h) (Or.inl ⟨by rfl, ?_⟩) hHeld ?_ ?_
   rotate_left
   ·rintro w' ⟨s0, s1, s2, s3, s4, s5⟩
    go_simp
    with_reducible rfl
   rotate_left
   ·simp only [Act.put, zB, zC, zD, i64_w, i32_w]
    rfl
   refine one_ (i := 1) (N := some 33) #[true, true, true, false, true, true, false, false, false, false, false, false] rfl rfl (one_of HT_.out (by kernel_rfl)) (by decide) (fun K hK => ?_)
   refine goes_ Try.func11 (by kernel_rfl) rfl #[.agg #[.int .i64 a0_0, .int .i64 a0_1, .slice A0_2 l0_2.length c0_2]] (by rfl) rfl rfl (by (try simp only [List.map_toArray, List.map_cons, List.map_nil]); first | done | rfl | (simp only [List.length_drop, List.length_take]; rfl)) ?_
   with_reducible refine (laws_toField.calls k a0_0 a0_1 _ _ l0_2 t317 t318 t319 _ ?side1 ?side2 A21.out).mono ?_
   (case side1 => repeat (first | exact (Kd.C_below HR0_2.out HB.out) | (with_reducible refine zI ?_ _) | (with_reducible refine zH ?_ _) | (with_reducible refine zJ ?_)))
   (case side2 => exact HC0_2.out)
   rintro e w36 ⟨v320, rfl, ho0, hb⟩
   refine ⟨_, rfl, ?_⟩
   have n0_ := zA (Kd.R_lower ho0 (zT (bB_ HB)))
   have n1_ := zA (zU (g := gb313) (o := .cells #[.int .i64 a0_0, .int .i64 a0_1, .slice A0_2 l0_2.length c0_2] 24 (0, 0)) (bA_ BK313) hb)
   have n2_ := zA (zU (g := gb314) (o := .cells #[.int .i64 a1_0, .int .i64 a1_1, .slice A1_2 l1_2.length c1_2] 24 (0, 0)) (bA_ BK314) hb)
   have n3_ := zA (below_step (bB_ HB) hb)
   clear BK313
   clear BK314
   clear HB
   have HO321 := n0_
   have BK313 := n1_
   have BK314 := n2_
   have HB := n3_
   clear n0_ n1_ n2_ n3_
   (try clear hb)
   (try clear hb2)
   (try clear hk)
   (try clear hi)
   (try clear ho0)
   refine hK.out _ _ ⟨(blk_cell BK313.out 0).trans rfl, (blk_cell BK313.out 1).trans rfl, (blk_cell BK313.out 2).trans rfl, (blk_cell BK314.out 0).trans rfl, (blk_cell BK314.out 1).trans rfl, (blk_cell BK314.out 2).trans rfl⟩ (fun hHeld => ?_)
   clear hK K
   refine norm_ (a' := ?_) ?_ ?_
   rotate_left
   ·show Act.put _ (some 33) _ = _
    simp only [Act.put, zB, zC, zD, i64_w, i32_w]
    rfl
   refine one_ (i := 3) (N := some 35) #[true, true, true, true, true, true, false, false, false, false, false, false] rfl rfl (one_of HT_.out (by kernel_rfl)) (by decide) (fun K hK => ?_)
   refine goes_ Try.func11 (by kernel_rfl) rfl #[.agg #[.int .i64 a1_0, .int .i64 a1_1, .slice A1_2 l1_2.length c1_2]] (by rfl) rfl rfl (by (try simp only [List.map_toArray, List.map_cons, List.map_nil]); first | done | rfl | (simp only [List.length_drop, List.length_take]; rfl)) ?_
   with_reducible refine (laws_toField.calls k a1_0 a1_1 _ _ l1_2 t322 t323 t324 _ ?side1 ?side2 A22.out).mono ?_
   (case side1 => repeat (first | exact (Kd.C_below HR1_2.out HB.out) | (with_reducible refine zI ?_ _) | (with_reducible refine zH ?_ _) | (with_reducible refine zJ ?_)))
   (case side2 => exact HC1_2.out)
   rintro e w37 ⟨v325, rfl, ho0, hb⟩
   refine ⟨_, rfl, ?_⟩
   have n0_ := zA (Kd.R_elder' (bC_ HO321) (Kd.R_base ho0) hb)
   have n1_ := zA (Kd.R_lower (Kd.R_new' ho0 (Kd.R_lt (bC_ HO321))) (zT (bB_ HB)))
   have n2_ := zA (zU (g := gb313) (o := .cells #[.int .i64 a0_0, .int .i64 a0_1, .slice A0_2 l0_2.length c0_2] 24 (0, 0)) (bA_ BK313) hb)
   have n3_ := zA (zU (g := gb314) (o := .cells #[.int .i64 a1_0, .int .i64 a1_1, .slice A1_2 l1_2.length c1_2] 24 (0, 0)) (bA_ BK314) hb)
   have n4_ := zA (below_step (bB_ HB) hb)
   clear HO321
   clear BK313
   clear BK314
   clear HB
   have HO321 := n0_
   have HO326 := n1_
   have BK313 := n2_
   have BK314 := n3_
   have HB := n4_
   clear n0_ n1_ n2_ n3_ n4_
   (try clear hb)
   (try clear hb2)
   (try clear hk)
   (try clear hi)
   (try clear ho0)
   obtain ⟨Ao38, co38, eo38⟩ := Kd.R_slice HO321.out
   (first | subst eo38 | (injection eo38 with f1_ f2_ f3_; have f4_ := f1_.symm; have f5_ := f3_.symm; clear f1_ f2_ f3_; subst f4_; subst f5_))
   obtain ⟨Ao39, co39, eo39⟩ := Kd.R_slice HO326.out
   (first | subst eo39 | (injection eo39 with f1_ f2_ f3_; have f4_ := f1_.symm; have f5_ := f3_.symm; clear f1_ f2_ f3_; subst f4_; subst f5_))
   refine hK.out _ _ ⟨(blk_cell BK313.out 0).trans rfl, (blk_cell BK313.out 1).trans rfl, (blk_cell BK313.out 2).trans rfl, (blk_cell BK314.out 0).trans rfl, (blk_cell BK314.out 1).trans rfl, (blk_cell BK314.out 2).trans rfl⟩ (fun hHeld => ?_)
   clear hK K
   refine norm_ (a' := ?_) ?_ ?_
   rotate_left
   ·show Act.put _ (some 35) _ = _
    simp only [Act.put, zB, zC, zD, i64_w, i32_w]
    rfl
   refine one_ (i := 6) (N := some 38) #[true, true, true, true, true, true, true, false, false, false, false, false] rfl rfl (one_of HT_.out (by kernel_rfl)) (by decide) (fun K hK => ?_)
   refine goes_ Try.func27 (by kernel_rfl) rfl #[.agg #[.int .i64 t317, .int .i64 t318, .slice Ao38 t319.length co38], .agg #[.int .i64 t322, .int .i64 t323, .slice Ao39 t324.length co39], .int .i64 a2, .int .i64 a3] (by rfl) rfl rfl (by (try simp only [List.map_toArray, List.map_cons, List.map_nil]); first | done | rfl | (simp only [List.length_drop, List.length_take]; rfl)) ?_
   with_reducible refine (spec_Zigzag.calls k t317 t318 _ _ t319 t322 t323 _ _ t324 a2 a3 t327 t330 _ ?side1 ?side2 ?side3 ?side4 A23.out).mono ?_
   (case side1 => repeat (first | exact (zK HO321.out).2.2 | (with_reducible refine zI ?_ _) | (with_reducible refine zH ?_ _) | (with_reducible refine zJ ?_)))
   (case side2 => exact (zK HO321.out).2.1)
   (case side3 => repeat (first | exact (zK HO326.out).2.2 | (with_reducible refine zI ?_ _) | (with_reducible refine zH ?_ _) | (with_reducible refine zJ ?_)))
   (case side4 => exact (zK HO326.out).2.1)
   rintro e w40 ⟨v328, rfl, ho0, hb⟩
   refine ⟨_, rfl, ?_⟩
   have n0_ := zA (zL (bC_ HO321) hb)
   have n1_ := zA (zL (bC_ HO326) hb)
   have n2_ := zA (Kd.R_lower ho0 (zT (bB_ HB)))
   have n3_ := zA (zU (g := gb313) (o := .cells #[.int .i64 a0_0, .int .i64 a0_1, .slice A0_2 l0_2.length c0_2] 24 (0, 0)) (bA_ BK313) hb)
   have n4_ := zA (zU (g := gb314) (o := .cells #[.int .i64 a1_0, .int .i64 a1_1, .slice A1_2 l1_2.length c1_2] 24 (0, 0)) (bA_ BK314) hb)
   have n5_ := zA (below_step (bB_ HB) hb)
   clear HO321
   clear HO326
   clear BK313
   clear BK314
   clear HB
   have HO321 := n0_
   have HO326 := n1_
   have HO329 := n2_
   have BK313 := n3_
   have BK314 := n4_
   have HB := n5_
   clear n0_ n1_ n2_ n3_ n4_ n5_
   (try clear hb)
   (try clear hb2)
   (try clear hk)
   (try clear hi)
   (try clear ho0)
   refine hK.out _ _ ⟨(blk_cell BK313.out 0).trans rfl, (blk_cell BK313.out 1).trans rfl, (blk_cell BK313.out 2).trans rfl, (blk_cell BK314.out 0).trans rfl, (blk_cell BK314.out 1).trans rfl, (blk_cell BK314.out 2).trans rfl⟩ (fun hHeld => ?_)
   clear hK K
   refine norm_ (a' := ?_) ?_ ?_
   rotate_left
   ·show Act.put _ (some 38) _ = _
    simp only [Act.put, zB, zC, zD, i64_w, i32_w]
    rfl
   refine pure_ (i := 7) (N := some 31) (v := ?_) (a' := ?_) #[true, true, true, true, true, true, true, true, false, false, false, false] rfl rfl (any_of HT_.out (by kernel_rfl)) (fun _ _ _ h => h) (Or.inl ⟨by rfl, ?_⟩) ?_ ?_
   rotate_left
   ·intro w'
    go_simp
    with_reducible rfl
   rotate_left
   ·simp only [Act.put, zB, zC, zD, i64_w, i32_w]
    rfl
   refine pure_ (i := 8) (N := some 39) (v := ?_) (a' := ?_) #[true, true, true, true, true, true, true, true, true, false, false, false] rfl rfl (any_of HT_.out (by kernel_rfl)) (fun _ _ _ h => h) (Or.inl ⟨by rfl, ?_⟩) ?_ ?_
   rotate_left
   ·intro w'
    go_simp
    with_reducible rfl
   rotate_left
   ·simp only [Act.put, zB, zC, zD, i64_w, i32_w]
    rfl
   refine pure_ (i := 9) (N := some 40) (v := ?_) (a' := ?_) #[true, true, true, true, true, true, true, true, true, true, false, false] rfl rfl (any_of HT_.out (by kernel_rfl)) (fun _ _ _ h => h) (Or.inl ⟨by rfl, ?_⟩) ?_ ?_
   rotate_left
   ·intro w'
    go_simp
    with_reducible rfl
   rotate_left
   ·simp only [Act.put, zB, zC, zD, i64_w, i32_w]
    rfl
   refine pure_ (i := 10) (N := some 10) (v := ?_) (a' := ?_) #[true, true, true, true, true, true, true, true, true, true, true, false] rfl rfl (any_of HT_.out (by kernel_rfl)) (fun _ _ _ h => h) (Or.inl ⟨by rfl, ?_⟩) ?_ ?_
   rotate_left
   ·intro w'
    go_simp
    with_reducible rfl
   rotate_left
   ·simp only [Act.put, zB, zC, zD, i64_w, i32_w]
    rfl
   refine pure_ (i := 11) (N := some 11) (v := ?_) (a' := ?_) #[true, true, true, true, true, true, true, true, true, true, true, true] rfl rfl (any_of HT_.out (by kernel_rfl)) (fun _ _ _ h => h) (Or.inl ⟨by rfl, ?_⟩) ?_ ?_
   rotate_left
   ·intro w'
    go_simp
    with_reducible rfl
   rotate_left
   ·simp only [Act.put, zB, zC, zD, i64_w, i32_w]
    rfl
   refine done_ (done_of HT_.out (by kernel_rfl)) ?_
   have hcz41_0 : w40.cell? ⟨gb313, 0, none⟩ = some (.int .i64 a0_0) := (blk_cell BK313.out 0).trans rfl
   have hcz41_1 : w40.cell? ⟨gb313, 1, none⟩ = some (.int .i64 a0_1) := (blk_cell BK313.out 1).trans rfl
   have hcz41_2 : w40.cell? ⟨gb313, 2, none⟩ = some (.slice A0_2 l0_2.length c0_2) := (blk_cell BK313.out 2).trans rfl
   have hfz41_0 := blk_frozen BK313.out 0
   have hfz41_1 := blk_frozen BK313.out 1
   have hfz41_2 := blk_frozen BK313.out 2
   go_upto_region 12 with (first | ((with_reducible refine gate_callee (f := 11) rfl ?_); refine goesL_ (some 42) rfl rfl Try.func11 (by kernel_rfl) rfl #[.agg #[.int .i64 a0_0, .int .i64 a0_1, .slice A0_2 l0_2.length c0_2]] rfl (by (try simp only [List.map_toArray, List.map_cons, List.map_nil]); first | done | rfl | (simp only [List.length_drop, List.length_take]; rfl)) ?_; (with_reducible refine (laws_toField.calls k a0_0 a0_1 _ _ l0_2 t331 t332 t333 _ ?side1 ?side2 A24.out).mono ?_); (case side1 => repeat (first | exact (Kd.C_below HR0_2.out HB.out) | (with_reducible refine zI ?_ _) | (with_reducible refine zH ?_ _) | (with_reducible refine zJ ?_))); (case side2 => exact HC0_2.out); rintro e w42 ⟨v334, rfl, ho0, hb⟩; refine ⟨_, rfl, ?_⟩; have n0_ := zA (Kd.R_elder' (bC_ HO321) (Kd.R_base ho0) hb); have n1_ := zA (Kd.R_elder' (bC_ HO326) (Kd.R_base ho0) hb); have n2_ := zA (zL (bC_ HO329) hb); have n3_ := zA (Kd.R_lower (Kd.R_new' (Kd.R_new' ho0 (Kd.R_lt (bC_ HO321))) (Kd.R_lt (bC_ HO326))) (zT (bB_ HB))); have n4_ := zA (zU (g := gb313) (o := .cells #[.int .i64 a0_0, .int .i64 a0_1, .slice A0_2 l0_2.length c0_2] 24 (0, 0)) (bA_ BK313) hb); have n5_ := zA (zU (g := gb314) (o := .cells #[.int .i64 a1_0, .int .i64 a1_1, .slice A1_2 l1_2.length c1_2] 24 (0, 0)) (bA_ BK314) hb); have n6_ := zA (below_step (bB_ HB) hb); clear HO321; clear HO326; clear HO329; clear BK313; clear BK314; clear HB; have HO321 := n0_; have HO326 := n1_; have HO329 := n2_; have HO335 := n3_; have BK313 := n4_; have BK314 := n5_; have HB := n6_; clear n0_ n1_ n2_ n3_ n4_ n5_ n6_; (try clear hb); (try clear hb2); (try clear hk); (try clear hi); (try clear ho0)) | ((with_reducible refine gate_dst (N := 12) rfl ?_); refine box_event ?hg (N := 12) ?hd (cs := #[.int .i64 0, .int .i64 0, .slice none 0 0]) (t := 26) ?hr ?_; (case hd => rfl); (case hg => rfl); (case hr => first | (go_simp; done) | (go_simp; rfl)); intro gb336 hg w43 hbox hb; have n0_ := zA (zL (bC_ HO321) hb); have n1_ := zA (zL (bC_ HO326) hb); have n2_ := zA (zL (bC_ HO329) hb); have n3_ := zA (zL (bC_ HO335) hb); have n4_ := zA (zU (g := gb313) (o := .cells #[.int .i64 a0_0, .int .i64 a0_1, .slice A0_2 l0_2.length c0_2] 24 (0, 0)) (bA_ BK313) hb); have n5_ := zA (zU (g := gb314) (o := .cells #[.int .i64 a1_0, .int .i64 a1_1, .slice A1_2 l1_2.length c1_2] 24 (0, 0)) (bA_ BK314) hb); have n6_ := zA (below_step (bB_ HB) hb); have n7_ := zA (hbox); have n8_ := zA ((by rw [hg]; exact (zT (bB_ HB)) : w.heap.size ≤ gb336)); have n9_ := zA ((by rw [hg]; exact (zT (bB_ HB)) : w.heap.size ≤ gb336)); have n10_ := zA ((by rw [hg]; exact Nat.ne_of_lt (blk_lt (g := gb313) (o := .cells #[.int .i64 a0_0, .int .i64 a0_1, .slice A0_2 l0_2.length c0_2] 24 (0, 0)) (bA_ BK313)) : gb313 ≠ gb336)); have n11_ := zA ((by rw [hg]; exact Nat.ne_of_gt (blk_lt (g := gb313) (o := .cells #[.int .i64 a0_0, .int .i64 a0_1, .slice A0_2 l0_2.length c0_2] 24 (0, 0)) (bA_ BK313)) : gb336 ≠ gb313)); have n12_ := zA ((by rw [hg]; exact Nat.ne_of_lt (blk_lt (g := gb314) (o := .cells #[.int .i64 a1_0, .int .i64 a1_1, .slice A1_2 l1_2.length c1_2] 24 (0, 0)) (bA_ BK314)) : gb314 ≠ gb336)); have n13_ := zA ((by rw [hg]; exact Nat.ne_of_gt (blk_lt (g := gb314) (o := .cells #[.int .i64 a1_0, .int .i64 a1_1, .slice A1_2 l1_2.length c1_2] 24 (0, 0)) (bA_ BK314)) : gb336 ≠ gb314)); clear HO321; clear HO326; clear HO329; clear HO335; clear BK313; clear BK314; clear HB; have HO321 := n0_; have HO326 := n1_; have HO329 := n2_; have HO335 := n3_; have BK313 := n4_; have BK314 := n5_; have HB := n6_; have BK336 := n7_; have GW336 := n8_; have GE336 := n9_; have NB313_336 := n10_; have NB336_313 := n11_; have NB314_336 := n12_; have NB336_314 := n13_; clear n0_ n1_ n2_ n3_ n4_ n5_ n6_ n7_ n8_ n9_ n10_ n11_ n12_ n13_; clear hb hbox hg; have hnb44 := NB336_313.out; have hnc44 := NB313_336.out; have hnb45 := NB336_314.out; have hnc45 := NB314_336.out; have hcz46_0 : w43.cell? ⟨gb336, 0, none⟩ = some (.int .i64 0) := (blk_cell BK336.out 0).trans rfl; have hcz46_1 : w43.cell? ⟨gb336, 1, none⟩ = some (.int .i64 0) := (blk_cell BK336.out 1).trans rfl; have hcz46_2 : w43.cell? ⟨gb336, 2, none⟩ = some (.slice none 0 0) := (blk_cell BK336.out 2).trans rfl; have hfz46_0 := blk_frozen BK336.out 0; have hfz46_1 := blk_frozen BK336.out 1; have hfz46_2 := blk_frozen BK336.out 2; obtain ⟨Ao47, co47, eo47⟩ := Kd.R_slice HO335.out; subst eo47; have hcz48_0 : w43.cell? ⟨gb314, 0, none⟩ = some (.int .i64 a1_0) := (blk_cell BK314.out 0).trans rfl; have hcz48_1 : w43.cell? ⟨gb314, 1, none⟩ = some (.int .i64 a1_1) := (blk_cell BK314.out 1).trans rfl; have hcz48_2 : w43.cell? ⟨gb314, 2, none⟩ = some (.slice A1_2 l1_2.length c1_2) := (blk_cell BK314.out 2).trans rfl; have hfz48_0 := blk_frozen BK314.out 0; have hfz48_1 := blk_frozen BK314.out 1; have hfz48_2 := blk_frozen BK314.out 2) | ((with_reducible refine gate_callee (f := 11) rfl ?_); refine goesL_ (some 44) rfl rfl Try.func11 (by kernel_rfl) rfl #[.agg #[.int .i64 a1_0, .int .i64 a1_1, .slice A1_2 l1_2.length c1_2]] rfl (by (try simp only [List.map_toArray, List.map_cons, List.map_nil]); first | done | rfl | (simp only [List.length_drop, List.length_take]; rfl)) ?_; (with_reducible refine (laws_toField.calls k a1_0 a1_1 _ _ l1_2 t337 t338 t339 _ ?side1 ?side2 A25.out).mono ?_); (case side1 => exact Kd.C_below HR1_2.out (bB_ HB)); (case side2 => exact HC1_2.out); rintro e w49 ⟨v340, rfl, ho0, hb⟩; refine ⟨_, rfl, ?_⟩; have n0_ := zA (Kd.R_elder' (by (with_reducible repeat (first | apply zF | apply zE | apply zG)); exact (Kd.R_mono (Kd.R_far (p := ⟨gb336, 2, none⟩) (Kd.R_far (p := ⟨gb336, 1, none⟩) (Kd.R_far (p := ⟨gb336, 0, none⟩) (Kd.R_types HO321.out BK336.out (by decide)) (fun _ hk => hk.2) (.int .i64 t331)) (fun _ hk => hk.2) (.int .i64 t332)) (fun _ hk => hk.2) (.slice Ao47 t333.length co47)) (fun _ h_ => h_.1))) (Kd.R_base ho0) hb); have n1_ := zA (Kd.R_elder' (by (with_reducible repeat (first | apply zF | apply zE | apply zG)); exact (Kd.R_mono (Kd.R_far (p := ⟨gb336, 2, none⟩) (Kd.R_far (p := ⟨gb336, 1, none⟩) (Kd.R_far (p := ⟨gb336, 0, none⟩) (Kd.R_types HO326.out BK336.out (by decide)) (fun _ hk => hk.2) (.int .i64 t331)) (fun _ hk => hk.2) (.int .i64 t332)) (fun _ hk => hk.2) (.slice Ao47 t333.length co47)) (fun _ h_ => h_.1))) (Kd.R_base ho0) hb); have n2_ := zA (zL (by (with_reducible repeat (first | apply zF | apply zE | apply zG)); exact (Kd.R_mono (Kd.R_far (p := ⟨gb336, 2, none⟩) (Kd.R_far (p := ⟨gb336, 1, none⟩) (Kd.R_far (p := ⟨gb336, 0, none⟩) (Kd.R_types HO329.out BK336.out (by decide)) (fun _ hk => hk.2) (.int .i64 t331)) (fun _ hk => hk.2) (.int .i64 t332)) (fun _ hk => hk.2) (.slice Ao47 t333.length co47)) (fun _ h_ => h_.1))) hb); have n3_ := zA (Kd.R_elder' (by (with_reducible repeat (first | apply zF | apply zE | apply zG)); exact (Kd.R_mono (Kd.R_far (p := ⟨gb336, 2, none⟩) (Kd.R_far (p := ⟨gb336, 1, none⟩) (Kd.R_far (p := ⟨gb336, 0, none⟩) (Kd.R_types HO335.out BK336.out (by decide)) (fun _ hk => hk.2) (.int .i64 t331)) (fun _ hk => hk.2) (.int .i64 t332)) (fun _ hk => hk.2) (.slice Ao47 t333.length co47)) (fun _ h_ => h_.1))) (Kd.R_base ho0) hb); have n4_ := zA (Kd.R_lower (Kd.R_new' (Kd.R_new' (Kd.R_new' ho0 (Kd.R_lt (by (with_reducible repeat (first | apply zF | apply zE | apply zG)); exact (Kd.R_mono (Kd.R_far (p := ⟨gb336, 2, none⟩) (Kd.R_far (p := ⟨gb336, 1, none⟩) (Kd.R_far (p := ⟨gb336, 0, none⟩) (Kd.R_types HO321.out BK336.out (by decide)) (fun _ hk => hk.2) (.int .i64 t331)) (fun _ hk => hk.2) (.int .i64 t332)) (fun _ hk => hk.2) (.slice Ao47 t333.length co47)) (fun _ h_ => h_.1))))) (Kd.R_lt (by (with_reducible repeat (first | apply zF | apply zE | apply zG)); exact (Kd.R_mono (Kd.R_far (p := ⟨gb336, 2, none⟩) (Kd.R_far (p := ⟨gb336, 1, none⟩) (Kd.R_far (p := ⟨gb336, 0, none⟩) (Kd.R_types HO326.out BK336.out (by decide)) (fun _ hk => hk.2) (.int .i64 t331)) (fun _ hk => hk.2) (.int .i64 t332)) (fun _ hk => hk.2) (.slice Ao47 t333.length co47)) (fun _ h_ => h_.1))))) (Kd.R_lt (by (with_reducible repeat (first | apply zF | apply zE | apply zG)); exact (Kd.R_mono (Kd.R_far (p := ⟨gb336, 2, none⟩) (Kd.R_far (p := ⟨gb336, 1, none⟩) (Kd.R_far (p := ⟨gb336, 0, none⟩) (Kd.R_types HO335.out BK336.out (by decide)) (fun _ hk => hk.2) (.int .i64 t331)) (fun _ hk => hk.2) (.int .i64 t332)) (fun _ hk => hk.2) (.slice Ao47 t333.length co47)) (fun _ h_ => h_.1))))) (zT (bB_ HB))); have n5_ := zA (zU (g := gb313) (o := .cells #[.int .i64 a0_0, .int .i64 a0_1, .slice A0_2 l0_2.length c0_2] 24 (0, 0)) (bD_ BK313) hb); have n6_ := zA (zU (g := gb314) (o := .cells #[.int .i64 a1_0, .int .i64 a1_1, .slice A1_2 l1_2.length c1_2] 24 (0, 0)) (bD_ BK314) hb); have n7_ := zA (zU (g := gb336) (o := .cells #[.int .i64 t331, .int .i64 t332, .slice Ao47 t333.length co47] 26 (0, 0)) (by (with_reducible repeat (first | refine zM ?_ _ | refine zN ?_ | refine zO ?_ _)); refine blk_put (cs := #[.int .i64 t331, .int .i64 t332, .slice none 0 0]) ?_ 2 _ rfl; (with_reducible repeat (first | refine zM ?_ _ | refine zN ?_ | refine zO ?_ _)); refine blk_put (cs := #[.int .i64 t331, .int .i64 0, .slice none 0 0]) ?_ 1 _ rfl; (with_reducible repeat (first | refine zM ?_ _ | refine zN ?_ | refine zO ?_ _)); refine blk_put (cs := #[.int .i64 0, .int .i64 0, .slice none 0 0]) ?_ 0 _ rfl; (with_reducible repeat (first | refine zM ?_ _ | refine zN ?_ | refine zO ?_ _)); exact BK336.out) hb); have n8_ := zA (below_step (bB_ HB) hb); clear HO321; clear HO326; clear HO329; clear HO335; clear BK313; clear BK314; clear BK336; clear HB; have HO321 := n0_; have HO326 := n1_; have HO329 := n2_; have HO335 := n3_; have HO341 := n4_; have BK313 := n5_; have BK314 := n6_; have BK336 := n7_; have HB := n8_; clear n0_ n1_ n2_ n3_ n4_ n5_ n6_ n7_ n8_; (try clear hb); (try clear hb2); (try clear hk); (try clear hi); (try clear ho0)) | ((with_reducible refine gate_dst (N := 13) rfl ?_); refine box_event ?hg (N := 13) ?hd (cs := #[.int .i64 0, .int .i64 0, .slice none 0 0]) (t := 26) ?hr ?_; (case hd => rfl); (case hg => rfl); (case hr => first | (go_simp; done) | (go_simp; rfl)); intro gb342 hg w50 hbox hb; have n0_ := zA (zL (bC_ HO321) hb); have n1_ := zA (zL (bC_ HO326) hb); have n2_ := zA (zL (bC_ HO329) hb); have n3_ := zA (zL (bC_ HO335) hb); have n4_ := zA (zL (bC_ HO341) hb); have n5_ := zA (zU (g := gb313) (o := .cells #[.int .i64 a0_0, .int .i64 a0_1, .slice A0_2 l0_2.length c0_2] 24 (0, 0)) (bA_ BK313) hb); have n6_ := zA (zU (g := gb314) (o := .cells #[.int .i64 a1_0, .int .i64 a1_1, .slice A1_2 l1_2.length c1_2] 24 (0, 0)) (bA_ BK314) hb); have n7_ := zA (zU (g := gb336) (o := .cells #[.int .i64 t331, .int .i64 t332, .slice Ao47 t333.length co47] 26 (0, 0)) (bA_ BK336) hb); have n8_ := zA (below_step (bB_ HB) hb); have n9_ := zA (hbox); have n10_ := zA ((by rw [hg]; exact (zT (bB_ HB)) : w.heap.size ≤ gb342)); have n11_ := zA ((by rw [hg]; exact (zT (bB_ HB)) : w.heap.size ≤ gb342)); have n12_ := zA ((by rw [hg]; exact Nat.ne_of_lt (blk_lt (g := gb313) (o := .cells #[.int .i64 a0_0, .int .i64 a0_1, .slice A0_2 l0_2.length c0_2] 24 (0, 0)) (bA_ BK313)) : gb313 ≠ gb342)); have n13_ := zA ((by rw [hg]; exact Nat.ne_of_gt (blk_lt (g := gb313) (o := .cells #[.int .i64 a0_0, .int .i64 a0_1, .slice A0_2 l0_2.length c0_2] 24 (0, 0)) (bA_ BK313)) : gb342 ≠ gb313)); have n14_ := zA ((by rw [hg]; exact Nat.ne_of_lt (blk_lt (g := gb314) (o := .cells #[.int .i64 a1_0, .int .i64 a1_1, .slice A1_2 l1_2.length c1_2] 24 (0, 0)) (bA_ BK314)) : gb314 ≠ gb342)); have n15_ := zA ((by rw [hg]; exact Nat.ne_of_gt (blk_lt (g := gb314) (o := .cells #[.int .i64 a1_0, .int .i64 a1_1, .slice A1_2 l1_2.length c1_2] 24 (0, 0)) (bA_ BK314)) : gb342 ≠ gb314)); have n16_ := zA ((by rw [hg]; exact Nat.ne_of_lt (blk_lt (g := gb336) (o := .cells #[.int .i64 t331, .int .i64 t332, .slice Ao47 t333.length co47] 26 (0, 0)) (bA_ BK336)) : gb336 ≠ gb342)); have n17_ := zA ((by rw [hg]; exact Nat.ne_of_gt (blk_lt (g := gb336) (o := .cells #[.int .i64 t331, .int .i64 t332, .slice Ao47 t333.length co47] 26 (0, 0)) (bA_ BK336)) : gb342 ≠ gb336)); clear HO321; clear HO326; clear HO329; clear HO335; clear HO341; clear BK313; clear BK314; clear BK336; clear HB; have HO321 := n0_; have HO326 := n1_; have HO329 := n2_; have HO335 := n3_; have HO341 := n4_; have BK313 := n5_; have BK314 := n6_; have BK336 := n7_; have HB := n8_; have BK342 := n9_; have GW342 := n10_; have GE342 := n11_; have NB313_342 := n12_; have NB342_313 := n13_; have NB314_342 := n14_; have NB342_314 := n15_; have NB336_342 := n16_; have NB342_336 := n17_; clear n0_ n1_ n2_ n3_ n4_ n5_ n6_ n7_ n8_ n9_ n10_ n11_ n12_ n13_ n14_ n15_ n16_ n17_; clear hb hbox hg; have hnb51 := NB342_313.out; have hnc51 := NB313_342.out; have hnb52 := NB342_314.out; have hnc52 := NB314_342.out; have hnb53 := NB342_336.out; have hnc53 := NB336_342.out; have hcz54_0 : w50.cell? ⟨gb342, 0, none⟩ = some (.int .i64 0) := (blk_cell BK342.out 0).trans rfl; have hcz54_1 : w50.cell? ⟨gb342, 1, none⟩ = some (.int .i64 0) := (blk_cell BK342.out 1).trans rfl; have hcz54_2 : w50.cell? ⟨gb342, 2, none⟩ = some (.slice none 0 0) := (blk_cell BK342.out 2).trans rfl; have hfz54_0 := blk_frozen BK342.out 0; have hfz54_1 := blk_frozen BK342.out 1; have hfz54_2 := blk_frozen BK342.out 2; obtain ⟨Ao55, co55, eo55⟩ := Kd.R_slice HO341.out; subst eo55; have hcz56_0 : w50.cell? ⟨gb336, 0, none⟩ = some (.int .i64 t331) := (blk_cell BK336.out 0).trans rfl; have hcz56_1 : w50.cell? ⟨gb336, 1, none⟩ = some (.int .i64 t332) := (blk_cell BK336.out 1).trans rfl; have hcz56_2 : w50.cell? ⟨gb336, 2, none⟩ = some (.slice Ao47 t333.length co47) := (blk_cell BK336.out 2).trans rfl; have hfz56_0 := blk_frozen BK336.out 0; have hfz56_1 := blk_frozen BK336.out 1; have hfz56_2 := blk_frozen BK336.out 2) | ((with_reducible refine gate_callee (f := 28) rfl ?_); refine goesL_ (some 50) rfl rfl Try.func28 (by kernel_rfl) rfl #[.agg #[.int .i64 t331, .int .i64 t332, .slice Ao47 t333.length co47], .agg #[.int .i64 t337, .int .i64 t338, .slice Ao55 t339.length co55], .int .i64 a2, .int .i64 a3] rfl (by (try simp only [List.map_toArray, List.map_cons, List.map_nil]); first | done | rfl | (simp only [List.length_drop, List.length_take]; rfl)) ?_; (with_reducible refine (impl_Zigzag.calls k t331 t332 _ _ t333 t337 t338 _ _ t339 a2 a3 t343 t346 _ ?side1 ?side2 ?side3 ?side4 A26.out).mono ?_); (case side1 => refine (zK (e := 3) (base := w.heap.size) (ok := fun k_ => (((True ∧ some k_ ≠ (.slice Ao38 t319.length co38 : Value).ownBlock) ∧ some k_ ≠ (.slice Ao39 t324.length co39 : Value).ownBlock) ∧ some k_ ≠ (.slice Ao55 t339.length co55 : Value).ownBlock)) (n := t333.length) (c := co47) ?_).2.2; exact (by (with_reducible repeat (first | apply zF | apply zE | apply zG)); exact (Kd.R_mono (Kd.R_far (p := ⟨gb342, 2, none⟩) (Kd.R_far (p := ⟨gb342, 1, none⟩) (Kd.R_far (p := ⟨gb342, 0, none⟩) (Kd.R_types HO335.out BK342.out (by decide)) (fun _ hk => hk.2) (.int .i64 t337)) (fun _ hk => hk.2) (.int .i64 t338)) (fun _ hk => hk.2) (.slice Ao55 t339.length co55)) (fun _ h_ => h_.1)))); (case side2 => exact (zK HO335.out).2.1); (case side3 => refine (zK (e := 3) (base := w.heap.size) (ok := fun k_ => (((True ∧ some k_ ≠ (.slice Ao38 t319.length co38 : Value).ownBlock) ∧ some k_ ≠ (.slice Ao39 t324.length co39 : Value).ownBlock) ∧ some k_ ≠ (.slice Ao47 t333.length co47 : Value).ownBlock)) (n := t339.length) (c := co55) ?_).2.2; exact (by (with_reducible repeat (first | apply zF | apply zE | apply zG)); exact (Kd.R_mono (Kd.R_far (p := ⟨gb342, 2, none⟩) (Kd.R_far (p := ⟨gb342, 1, none⟩) (Kd.R_far (p := ⟨gb342, 0, none⟩) (Kd.R_types HO341.out BK342.out (by decide)) (fun _ hk => hk.2) (.int .i64 t337)) (fun _ hk => hk.2) (.int .i64 t338)) (fun _ hk => hk.2) (.slice Ao55 t339.length co55)) (fun _ h_ => h_.1)))); (case side4 => exact (zK HO341.out).2.1); rintro e w57 ⟨v344, rfl, ho0, hb⟩; refine ⟨_, rfl, ?_⟩; have n0_ := zA (zL (by (with_reducible repeat (first | apply zF | apply zE | apply zG)); exact (Kd.R_mono (Kd.R_far (p := ⟨gb342, 2, none⟩) (Kd.R_far (p := ⟨gb342, 1, none⟩) (Kd.R_far (p := ⟨gb342, 0, none⟩) (Kd.R_types HO321.out BK342.out (by decide)) (fun _ hk => hk.2) (.int .i64 t337)) (fun _ hk => hk.2) (.int .i64 t338)) (fun _ hk => hk.2) (.slice Ao55 t339.length co55)) (fun _ h_ => h_.1))) hb); have n1_ := zA (zL (by (with_reducible repeat (first | apply zF | apply zE | apply zG)); exact (Kd.R_mono (Kd.R_far (p := ⟨gb342, 2, none⟩) (Kd.R_far (p := ⟨gb342, 1, none⟩) (Kd.R_far (p := ⟨gb342, 0, none⟩) (Kd.R_types HO326.out BK342.out (by decide)) (fun _ hk => hk.2) (.int .i64 t337)) (fun _ hk => hk.2) (.int .i64 t338)) (fun _ hk => hk.2) (.slice Ao55 t339.length co55)) (fun _ h_ => h_.1))) hb); have n2_ := zA (Kd.R_elder' (by (with_reducible repeat (first | apply zF | apply zE | apply zG)); exact (Kd.R_mono (Kd.R_far (p := ⟨gb342, 2, none⟩) (Kd.R_far (p := ⟨gb342, 1, none⟩) (Kd.R_far (p := ⟨gb342, 0, none⟩) (Kd.R_types HO329.out BK342.out (by decide)) (fun _ hk => hk.2) (.int .i64 t337)) (fun _ hk => hk.2) (.int .i64 t338)) (fun _ hk => hk.2) (.slice Ao55 t339.length co55)) (fun _ h_ => h_.1))) (Kd.R_base ho0) hb); have n3_ := zA (zL (by (with_reducible repeat (first | apply zF | apply zE | apply zG)); exact (Kd.R_mono (Kd.R_far (p := ⟨gb342, 2, none⟩) (Kd.R_far (p := ⟨gb342, 1, none⟩) (Kd.R_far (p := ⟨gb342, 0, none⟩) (Kd.R_types HO335.out BK342.out (by decide)) (fun _ hk => hk.2) (.int .i64 t337)) (fun _ hk => hk.2) (.int .i64 t338)) (fun _ hk => hk.2) (.slice Ao55 t339.length co55)) (fun _ h_ => h_.1))) hb); have n4_ := zA (zL (by (with_reducible repeat (first | apply zF | apply zE | apply zG)); exact (Kd.R_mono (Kd.R_far (p := ⟨gb342, 2, none⟩) (Kd.R_far (p := ⟨gb342, 1, none⟩) (Kd.R_far (p := ⟨gb342, 0, none⟩) (Kd.R_types HO341.out BK342.out (by decide)) (fun _ hk => hk.2) (.int .i64 t337)) (fun _ hk => hk.2) (.int .i64 t338)) (fun _ hk => hk.2) (.slice Ao55 t339.length co55)) (fun _ h_ => h_.1))) hb); have n5_ := zA (Kd.R_lower (Kd.R_new' ho0 (Kd.R_lt (by (with_reducible repeat (first | apply zF | apply zE | apply zG)); exact (Kd.R_mono (Kd.R_far (p := ⟨gb342, 2, none⟩) (Kd.R_far (p := ⟨gb342, 1, none⟩) (Kd.R_far (p := ⟨gb342, 0, none⟩) (Kd.R_types HO329.out BK342.out (by decide)) (fun _ hk => hk.2) (.int .i64 t337)) (fun _ hk => hk.2) (.int .i64 t338)) (fun _ hk => hk.2) (.slice Ao55 t339.length co55)) (fun _ h_ => h_.1))))) (zT (bB_ HB))); have n6_ := zA (zU (g := gb313) (o := .cells #[.int .i64 a0_0, .int .i64 a0_1, .slice A0_2 l0_2.length c0_2] 24 (0, 0)) (bD_ BK313) hb); have n7_ := zA (zU (g := gb314) (o := .cells #[.int .i64 a1_0, .int .i64 a1_1, .slice A1_2 l1_2.length c1_2] 24 (0, 0)) (bD_ BK314) hb); have n8_ := zA (zU (g := gb336) (o := .cells #[.int .i64 t331, .int .i64 t332, .slice Ao47 t333.length co47] 26 (0, 0)) (bD_ BK336) hb); have n9_ := zA (zU (g := gb342) (o := .cells #[.int .i64 t337, .int .i64 t338, .slice Ao55 t339.length co55] 26 (0, 0)) (by (with_reducible repeat (first | refine zM ?_ _ | refine zN ?_ | refine zO ?_ _)); refine blk_put (cs := #[.int .i64 t337, .int .i64 t338, .slice none 0 0]) ?_ 2 _ rfl; (with_reducible repeat (first | refine zM ?_ _ | refine zN ?_ | refine zO ?_ _)); refine blk_put (cs := #[.int .i64 t337, .int .i64 0, .slice none 0 0]) ?_ 1 _ rfl; (with_reducible repeat (first | refine zM ?_ _ | refine zN ?_ | refine zO ?_ _)); refine blk_put (cs := #[.int .i64 0, .int .i64 0, .slice none 0 0]) ?_ 0 _ rfl; (with_reducible repeat (first | refine zM ?_ _ | refine zN ?_ | refine zO ?_ _)); exact BK342.out) hb); have n10_ := zA (below_step (bB_ HB) hb); clear HO321; clear HO326; clear HO329; clear HO335; clear HO341; clear BK313; clear BK314; clear BK336; clear BK342; clear HB; have HO321 := n0_; have HO326 := n1_; have HO329 := n2_; have HO335 := n3_; have HO341 := n4_; have HO345 := n5_; have BK313 := n6_; have BK314 := n7_; have BK336 := n8_; have BK342 := n9_; have HB := n10_; clear n0_ n1_ n2_ n3_ n4_ n5_ n6_ n7_ n8_ n9_ n10_; (try clear hb); (try clear hb2); (try clear hk); (try clear hi); (try clear ho0)))
   (try simp only [Act.put, zB, zC, zD])
   go_cut [61] (fun v61 wc => ∃ (kq : Nat) (x61_26 : Bool), v61 = .bool x61_26 ∧ Aside0 (laws_FnExactZigzag.j0 kq a2 a3 t327 t330 t343 t346 x61_26 a0_0 a0_1 l0_2 a1_0 a1_1 l1_2 t331 t332 t333 t337 t338 t339 = some r) ∧ Aside0 (kq ≤ k) ∧ Aside0 (Kd.R k61 61 wc w.heap.size (fun k_ => some k_ ≠ (v344 : Value).ownBlock) v328 t327) ∧ Aside0 (Kd.R k61 61 wc w.heap.size (fun k_ => some k_ ≠ (v328 : Value).ownBlock) v344 t343) ∧ Aside0 (Kd.R (Kd.int .i64) 3 wc w.heap.size (fun k_ => some k_ ≠ ((.slice Ao55 t339.length co55) : Value).ownBlock) (.slice Ao47 t333.length co47) t333) ∧ Aside0 (Kd.R (Kd.int .i64) 3 wc w.heap.size (fun k_ => some k_ ≠ ((.slice Ao47 t333.length co47) : Value).ownBlock) (.slice Ao55 t339.length co55) t339) ∧ Aside0 (wc.heap[gb313]? = some (.cells #[.int .i64 a0_0, .int .i64 a0_1, (.slice A0_2 l0_2.length c0_2)] 24 (0, 0))) ∧ Aside0 (wc.heap[gb314]? = some (.cells #[.int .i64 a1_0, .int .i64 a1_1, (.slice A1_2 l1_2.length c1_2)] 24 (0, 0))) ∧ Aside0 (wc.heap[gb336]? = some (.cells #[.int .i64 t331, .int .i64 t332, (.slice Ao47 t333.length co47)] 26 (0, 0))) ∧ Aside0 (wc.heap[gb342]? = some (.cells #[.int .i64 t337, .int .i64 t338, (.slice Ao55 t339.length co55)] 26 (0, 0))) ∧ Aside0 (Below w.heap.size w wc))
   case first =>
    have H := HC27.out
    clear HC27
    replace H := Option.bind_eq_some_iff.mp H
    obtain ⟨t347, A580, H⟩ := H
    replace H : (if t347 = true then (laws_FnExactZigzag.j0 k a2 a3 t327 t330 t343 t346 (t346 != t330) a0_0 a0_1 l0_2 a1_0 a1_1 l1_2 t331 t332 t333 t337 t338 t339) else (laws_FnExactZigzag.j0 k a2 a3 t327 t330 t343 t346 true a0_0 a0_1 l0_2 a1_0 a1_1 l1_2 t331 t332 t333 t337 t338 t339)) = some r := H
    have A58 := zA A580
    clear A580
    by_cases c59 : t347 = true
    ·subst c59
     have H1 : (laws_FnExactZigzag.j0 k a2 a3 t327 t330 t343 t346 (t346 != t330) a0_0 a0_1 l0_2 a1_0 a1_1 l1_2 t331 t332 t333 t337 t338 t339) = some r := by rw [if_pos rfl] at H; exact H
     clear H
     have H := H1
     clear H1
     have H' := zA H
     clear H
     obtain ⟨Ao60, co60, eo60⟩ := Kd.R_slice HO345.out
     subst eo60
     obtain ⟨Ao61, co61, eo61⟩ := Kd.R_slice HO329.out
     subst eo61
     go_wp2_with (first | ((with_reducible refine gate_callee (f := 29) rfl ?_); refine goesL_ (some 55) rfl rfl Try.func29 (by kernel_rfl) rfl #[.slice Ao60 t343.length co60, .slice Ao61 t327.length co61] rfl (by (try simp only [List.map_toArray, List.map_cons, List.map_nil]); first | done | rfl | (simp only [List.length_drop, List.length_take]; rfl)) ?_; (with_reducible refine (laws_eqMoveS.calls k _ _ t343 _ _ t327 true _ ?side1 ?side2 ?side3 ?side4 A58.out).mono ?_); (case side1 => repeat (first | exact (zK HO345.out).2.2 | (with_reducible refine zI ?_ _) | (with_reducible refine zH ?_ _) | (with_reducible refine zJ ?_))); (case side2 => exact (zK HO345.out).2.1); (case side3 => repeat (first | exact (zK HO329.out).2.2 | (with_reducible refine zI ?_ _) | (with_reducible refine zH ?_ _) | (with_reducible refine zJ ?_))); (case side4 => exact (zK HO329.out).2.1); rintro e w62 ⟨rfl, hb⟩; refine ⟨_, rfl, ?_⟩; have n0_ := zA (zL (bC_ HO321) hb); have n1_ := zA (zL (bC_ HO326) hb); have n2_ := zA (zL (bC_ HO329) hb); have n3_ := zA (zL (bC_ HO335) hb); have n4_ := zA (zL (bC_ HO341) hb); have n5_ := zA (zL (bC_ HO345) hb); have n6_ := zA (zU (g := gb313) (o := .cells #[.int .i64 a0_0, .int .i64 a0_1, .slice A0_2 l0_2.length c0_2] 24 (0, 0)) (bA_ BK313) hb); have n7_ := zA (zU (g := gb314) (o := .cells #[.int .i64 a1_0, .int .i64 a1_1, .slice A1_2 l1_2.length c1_2] 24 (0, 0)) (bA_ BK314) hb); have n8_ := zA (zU (g := gb336) (o := .cells #[.int .i64 t331, .int .i64 t332, .slice Ao47 t333.length co47] 26 (0, 0)) (bA_ BK336) hb); have n9_ := zA (zU (g := gb342) (o := .cells #[.int .i64 t337, .int .i64 t338, .slice Ao55 t339.length co55] 26 (0, 0)) (bA_ BK342) hb); have n10_ := zA (below_step (bB_ HB) hb); clear HO321; clear HO326; clear HO329; clear HO335; clear HO341; clear HO345; clear BK313; clear BK314; clear BK336; clear BK342; clear HB; have HO321 := n0_; have HO326 := n1_; have HO329 := n2_; have HO335 := n3_; have HO341 := n4_; have HO345 := n5_; have BK313 := n6_; have BK314 := n7_; have BK336 := n8_; have BK342 := n9_; have HB := n10_; clear n0_ n1_ n2_ n3_ n4_ n5_ n6_ n7_ n8_ n9_ n10_; (try clear hb); (try clear hb2); (try clear hk); (try clear hi)))
     go_meet
     case rel => exact ⟨_, ((t346 != t330)), (by first | rfl | (simp; done) | (simp [*]; done)), H', ⟨by first | omega | exact Nat.le_refl _⟩, ⟨by (with_reducible repeat (first | apply zF | apply zE | apply zG)); exact Kd.R_mono HO329.out (fun _ hk => hk.2)⟩, ⟨by (with_reducible repeat (first | apply zF | apply zE | apply zG)); exact Kd.R_mono HO345.out (fun _ hk => hk.2)⟩, ⟨by (with_reducible repeat (first | apply zF | apply zE | apply zG)); exact Kd.R_mono HO335.out (fun _ hk => hk.2)⟩, ⟨by (with_reducible repeat (first | apply zF | apply zE | apply zG)); exact Kd.R_mono HO341.out (fun _ hk => hk.2)⟩, ⟨bA_ BK313⟩, ⟨bA_ BK314⟩, ⟨bA_ BK336⟩, ⟨bA_ BK342⟩, ⟨bB_ HB⟩⟩
    ·replace c59 := Bool.eq_false_iff.mpr c59
     subst c59
     have H1 : (laws_FnExactZigzag.j0 k a2 a3 t327 t330 t343 t346 true a0_0 a0_1 l0_2 a1_0 a1_1 l1_2 t331 t332 t333 t337 t338 t339) = some r := by rw [if_neg (show ¬ (false = true) by decide)] at H; exact H
     clear H
     have H := H1
     clear H1
     have H' := zA H
     clear H
     obtain ⟨Ao63, co63, eo63⟩ := Kd.R_slice HO345.out
     subst eo63
     obtain ⟨Ao64, co64, eo64⟩ := Kd.R_slice HO329.out
     subst eo64
     go_wp2_with (first | ((with_reducible refine gate_callee (f := 29) rfl ?_); refine goesL_ (some 55) rfl rfl Try.func29 (by kernel_rfl) rfl #[.slice Ao63 t343.length co63, .slice Ao64 t327.length co64] rfl (by (try simp only [List.map_toArray, List.map_cons, List.map_nil]); first | done | rfl | (simp only [List.length_drop, List.length_take]; rfl)) ?_; (with_reducible refine (laws_eqMoveS.calls k _ _ t343 _ _ t327 false _ ?side1 ?side2 ?side3 ?side4 A58.out).mono ?_); (case side1 => repeat (first | exact (zK HO345.out).2.2 | (with_reducible refine zI ?_ _) | (with_reducible refine zH ?_ _) | (with_reducible refine zJ ?_))); (case side2 => exact (zK HO345.out).2.1); (case side3 => repeat (first | exact (zK HO329.out).2.2 | (with_reducible refine zI ?_ _) | (with_reducible refine zH ?_ _) | (with_reducible refine zJ ?_))); (case side4 => exact (zK HO329.out).2.1); rintro e w65 ⟨rfl, hb⟩; refine ⟨_, rfl, ?_⟩; have n0_ := zA (zL (bC_ HO321) hb); have n1_ := zA (zL (bC_ HO326) hb); have n2_ := zA (zL (bC_ HO329) hb); have n3_ := zA (zL (bC_ HO335) hb); have n4_ := zA (zL (bC_ HO341) hb); have n5_ := zA (zL (bC_ HO345) hb); have n6_ := zA (zU (g := gb313) (o := .cells #[.int .i64 a0_0, .int .i64 a0_1, .slice A0_2 l0_2.length c0_2] 24 (0, 0)) (bA_ BK313) hb); have n7_ := zA (zU (g := gb314) (o := .cells #[.int .i64 a1_0, .int .i64 a1_1, .slice A1_2 l1_2.length c1_2] 24 (0, 0)) (bA_ BK314) hb); have n8_ := zA (zU (g := gb336) (o := .cells #[.int .i64 t331, .int .i64 t332, .slice Ao47 t333.length co47] 26 (0, 0)) (bA_ BK336) hb); have n9_ := zA (zU (g := gb342) (o := .cells #[.int .i64 t337, .int .i64 t338, .slice Ao55 t339.length co55] 26 (0, 0)) (bA_ BK342) hb); have n10_ := zA (below_step (bB_ HB) hb); clear HO321; clear HO326; clear HO329; clear HO335; clear HO341; clear HO345; clear BK313; clear BK314; clear BK336; clear BK342; clear HB; have HO321 := n0_; have HO326 := n1_; have HO329 := n2_; have HO335 := n3_; have HO341 := n4_; have HO345 := n5_; have BK313 := n6_; have BK314 := n7_; have BK336 := n8_; have BK342 := n9_; have HB := n10_; clear n0_ n1_ n2_ n3_ n4_ n5_ n6_ n7_ n8_ n9_ n10_; (try clear hb); (try clear hb2); (try clear hk); (try clear hi)))
     go_meet
     case rel => exact ⟨_, (true), (by first | rfl | (simp; done) | (simp [*]; done)), H', ⟨by first | omega | exact Nat.le_refl _⟩, ⟨by (with_reducible repeat (first | apply zF | apply zE | apply zG)); exact Kd.R_mono HO329.out (fun _ hk => hk.2)⟩, ⟨by (with_reducible repeat (first | apply zF | apply zE | apply zG)); exact Kd.R_mono HO345.out (fun _ hk => hk.2)⟩, ⟨by (with_reducible repeat (first | apply zF | apply zE | apply zG)); exact Kd.R_mono HO335.out (fun _ hk => hk.2)⟩, ⟨by (with_reducible repeat (first | apply zF | apply zE | apply zG)); exact Kd.R_mono HO341.out (fun _ hk => hk.2)⟩, ⟨bA_ BK313⟩, ⟨bA_ BK314⟩, ⟨bA_ BK336⟩, ⟨bA_ BK342⟩, ⟨bB_ HB⟩⟩
   case rest =>
    clear HC27
    try clear c1
    try clear c2
    try clear p2
    try clear c3
    try clear c4
    try clear c5
    try clear c6
    try clear c6b0
    try clear c9
    try clear c11
    try clear c13
    try clear c13b0
    try clear c16
    try clear c27
    try clear c28
    try clear c29
    try clear c30
    try clear c44
    try clear c45
    try clear c51
    try clear c52
    try clear c53
    try clear c59
    try clear hcz10_0
    try clear hcz10_1
    try clear hcz10_2
    try clear hcz17_0
    try clear hcz17_1
    try clear hcz17_2
    try clear hcz19_0
    try clear hcz19_1
    try clear hcz19_2
    try clear hcz31_0
    try clear hcz31_1
    try clear hcz31_2
    try clear hcz33_0
    try clear hcz33_1
    try clear hcz33_2
    try clear hcz41_0
    try clear hcz41_1
    try clear hcz41_2
    try clear hcz46_0
    try clear hcz46_1
    try clear hcz46_2
    try clear hcz48_0
    try clear hcz48_1
    try clear hcz48_2
    try clear hcz54_0
    try clear hcz54_1
    try clear hcz54_2
    try clear hcz56_0
    try clear hcz56_1
    try clear hcz56_2
    try clear hfz10_0
    try clear hfz10_1
    try clear hfz10_2
    try clear hfz17_0
    try clear hfz17_1
    try clear hfz17_2
    try clear hfz19_0
    try clear hfz19_1
    try clear hfz19_2
    try clear hfz31_0
    try clear hfz31_1
    try clear hfz31_2
    try clear hfz33_0
    try clear hfz33_1
    try clear hfz33_2
    try clear hfz41_0
    try clear hfz41_1
    try clear hfz41_2
    try clear hfz46_0
    try clear hfz46_1
    try clear hfz46_2
    try clear hfz48_0
    try clear hfz48_1
    try clear hfz48_2
    try clear hfz54_0
    try clear hfz54_1
    try clear hfz54_2
    try clear hfz56_0
    try clear hfz56_1
    try clear hfz56_2
    obtain ⟨kq, x61_26, rfl, HA, HJ26, HO_10, HO_14, HO_337002, HO_343002, BK313, BK314, BK336, BK342, HB⟩ := hcut
    cases kq with
    | zero => exact absurd HA.out (by simp [laws_FnExactZigzag.j0])
    | succ kj26 =>
     have H := HA.out
     clear HA
     simp only [laws_FnExactZigzag.j0] at H
     by_cases c66 : x61_26 = true
     ·subst c66
      have H1 : (some false) = some r := by rw [if_pos rfl] at H; exact H
      clear H
      have H := H1
      clear H1
      obtain rfl := Option.some.inj H
      go_wp2
      go_ret
      exact ⟨by first | rfl | (simp [errW_none, errW_some] <;> rfl) | (simp [*, errW_none, errW_some] <;> rfl), bB_ HB⟩
     ·replace c66 := Bool.eq_false_iff.mpr c66
      subst c66
      have H1 : ((laws_toField.f kj26 a0_0 a0_1 l0_2).bind fun bt348 => ((laws_eqField.f kj26 t331 t332 t333 bt348.1 bt348.2.1 bt348.2.2).bind fun t353 => (if t353 = true then ((laws_toField.f kj26 a1_0 a1_1 l1_2).bind fun bt354 => ((laws_eqField.f kj26 t337 t338 t339 bt354.1 bt354.2.1 bt354.2.2).bind fun t359 => (if t359 = true then ((laws_markField.f kj26 t331 t332 t333 1).bind fun bt360 => ((laws_markField.f kj26 t337 t338 t339 bt360.1).bind fun bt362 => (if bt362.1 < 0 then (laws_FnExactZigzag.j1 kj26 a2 a3 t327 t330 t343 true a0_0 a0_1 l0_2 a1_0 a1_1 l1_2) else ((laws_eqMoveS.f kj26 t343 t327).bind fun t364 => (if t364 = true then (laws_FnExactZigzag.j1 kj26 a2 a3 t327 t330 t343 (t346 != t330) a0_0 a0_1 l0_2 a1_0 a1_1 l1_2) else (laws_FnExactZigzag.j1 kj26 a2 a3 t327 t330 t343 true a0_0 a0_1 l0_2 a1_0 a1_1 l1_2)))))) else (some false)))) else (some false)))) = some r := by rw [if_neg (show ¬ (false = true) by decide)] at H; exact H
      clear H
      have H := H1
      clear H1
      replace H := Option.bind_eq_some_iff.mp H
      obtain ⟨⟨t348, t349, t350⟩, A670, H⟩ := H
      replace H : ((laws_eqField.f kj26 t331 t332 t333 t348 t349 t350).bind fun t353 => (if t353 = true then ((laws_toField.f kj26 a1_0 a1_1 l1_2).bind fun bt354 => ((laws_eqField.f kj26 t337 t338 t339 bt354.1 bt354.2.1 bt354.2.2).bind fun t359 => (if t359 = true then ((laws_markField.f kj26 t331 t332 t333 1).bind fun bt360 => ((laws_markField.f kj26 t337 t338 t339 bt360.1).bind fun bt362 => (if bt362.1 < 0 then (laws_FnExactZigzag.j1 kj26 a2 a3 t327 t330 t343 true a0_0 a0_1 l0_2 a1_0 a1_1 l1_2) else ((laws_eqMoveS.f kj26 t343 t327).bind fun t364 => (if t364 = true then (laws_FnExactZigzag.j1 kj26 a2 a3 t327 t330 t343 (t346 != t330) a0_0 a0_1 l0_2 a1_0 a1_1 l1_2) else (laws_FnExactZigzag.j1 kj26 a2 a3 t327 t330 t343 true a0_0 a0_1 l0_2 a1_0 a1_1 l1_2)))))) else (some false)))) else (some false))) = some r := H
      have A67 := zA A670
      clear A670
      replace H := Option.bind_eq_some_iff.mp H
      obtain ⟨t353, A680, H⟩ := H
      replace H : (if t353 = true then ((laws_toField.f kj26 a1_0 a1_1 l1_2).bind fun bt354 => ((laws_eqField.f kj26 t337 t338 t339 bt354.1 bt354.2.1 bt354.2.2).bind fun t359 => (if t359 = true then ((laws_markField.f kj26 t331 t332 t333 1).bind fun bt360 => ((laws_markField.f kj26 t337 t338 t339 bt360.1).bind fun bt362 => (if bt362.1 < 0 then (laws_FnExactZigzag.j1 kj26 a2 a3 t327 t330 t343 true a0_0 a0_1 l0_2 a1_0 a1_1 l1_2) else ((laws_eqMoveS.f kj26 t343 t327).bind fun t364 => (if t364 = true then (laws_FnExactZigzag.j1 kj26 a2 a3 t327 t330 t343 (t346 != t330) a0_0 a0_1 l0_2 a1_0 a1_1 l1_2) else (laws_FnExactZigzag.j1 kj26 a2 a3 t327 t330 t343 true a0_0 a0_1 l0_2 a1_0 a1_1 l1_2)))))) else (some false)))) else (some false)) = some r := H
      have A68 := zA A680
      clear A680
      by_cases c69 : t353 = true
      ·subst c69
       have H1 : ((laws_toField.f kj26 a1_0 a1_1 l1_2).bind fun bt354 => ((laws_eqField.f kj26 t337 t338 t339 bt354.1 bt354.2.1 bt354.2.2).bind fun t359 => (if t359 = true then ((laws_markField.f kj26 t331 t332 t333 1).bind fun bt360 => ((laws_markField.f kj26 t337 t338 t339 bt360.1).bind fun bt362 => (if bt362.1 < 0 then (laws_FnExactZigzag.j1 kj26 a2 a3 t327 t330 t343 true a0_0 a0_1 l0_2 a1_0 a1_1 l1_2) else ((laws_eqMoveS.f kj26 t343 t327).bind fun t364 => (if t364 = true then (laws_FnExactZigzag.j1 kj26 a2 a3 t327 t330 t343 (t346 != t330) a0_0 a0_1 l0_2 a1_0 a1_1 l1_2) else (laws_FnExactZigzag.j1 kj26 a2 a3 t327 t330 t343 true a0_0 a0_1 l0_2 a1_0 a1_1 l1_2)))))) else (some false)))) = some r := by rw [if_pos rfl] at H; exact H
       clear H
       have H := H1
       clear H1
       replace H := Option.bind_eq_some_iff.mp H
       obtain ⟨⟨t354, t355, t356⟩, A700, H⟩ := H
       replace H : ((laws_eqField.f kj26 t337 t338 t339 t354 t355 t356).bind fun t359 => (if t359 = true then ((laws_markField.f kj26 t331 t332 t333 1).bind fun bt360 => ((laws_markField.f kj26 t337 t338 t339 bt360.1).bind fun bt362 => (if bt362.1 < 0 then (laws_FnExactZigzag.j1 kj26 a2 a3 t327 t330 t343 true a0_0 a0_1 l0_2 a1_0 a1_1 l1_2) else ((laws_eqMoveS.f kj26 t343 t327).bind fun t364 => (if t364 = true then (laws_FnExactZigzag.j1 kj26 a2 a3 t327 t330 t343 (t346 != t330) a0_0 a0_1 l0_2 a1_0 a1_1 l1_2) else (laws_FnExactZigzag.j1 kj26 a2 a3 t327 t330 t343 true a0_0 a0_1 l0_2 a1_0 a1_1 l1_2)))))) else (some false))) = some r := H
       have A70 := zA A700
       clear A700
       replace H := Option.bind_eq_some_iff.mp H
       obtain ⟨t359, A710, H⟩ := H
       replace H : (if t359 = true then ((laws_markField.f kj26 t331 t332 t333 1).bind fun bt360 => ((laws_markField.f kj26 t337 t338 t339 bt360.1).bind fun bt362 => (if bt362.1 < 0 then (laws_FnExactZigzag.j1 kj26 a2 a3 t327 t330 t343 true a0_0 a0_1 l0_2 a1_0 a1_1 l1_2) else ((laws_eqMoveS.f kj26 t343 t327).bind fun t364 => (if t364 = true then (laws_FnExactZigzag.j1 kj26 a2 a3 t327 t330 t343 (t346 != t330) a0_0 a0_1 l0_2 a1_0 a1_1 l1_2) else (laws_FnExactZigzag.j1 kj26 a2 a3 t327 t330 t343 true a0_0 a0_1 l0_2 a1_0 a1_1 l1_2)))))) else (some false)) = some r := H
       have A71 := zA A710
       clear A710
       by_cases c72 : t359 = true
       ·subst c72
        have H1 : ((laws_markField.f kj26 t331 t332 t333 1).bind fun bt360 => ((laws_markField.f kj26 t337 t338 t339 bt360.1).bind fun bt362 => (if bt362.1 < 0 then (laws_FnExactZigzag.j1 kj26 a2 a3 t327 t330 t343 true a0_0 a0_1 l0_2 a1_0 a1_1 l1_2) else ((laws_eqMoveS.f kj26 t343 t327).bind fun t364 => (if t364 = true then (laws_FnExactZigzag.j1 kj26 a2 a3 t327 t330 t343 (t346 != t330) a0_0 a0_1 l0_2 a1_0 a1_1 l1_2) else (laws_FnExactZigzag.j1 kj26 a2 a3 t327 t330 t343 true a0_0 a0_1 l0_2 a1_0 a1_1 l1_2)))))) = some r := by rw [if_pos rfl] at H; exact H
        clear H
        have H := H1
        clear H1
        replace H := Option.bind_eq_some_iff.mp H
        obtain ⟨⟨t360, t361⟩, A730, H⟩ := H
        replace H : ((laws_markField.f kj26 t337 t338 t339 t360).bind fun bt362 => (if bt362.1 < 0 then (laws_FnExactZigzag.j1 kj26 a2 a3 t327 t330 t343 true a0_0 a0_1 l0_2 a1_0 a1_1 l1_2) else ((laws_eqMoveS.f kj26 t343 t327).bind fun t364 => (if t364 = true then (laws_FnExactZigzag.j1 kj26 a2 a3 t327 t330 t343 (t346 != t330) a0_0 a0_1 l0_2 a1_0 a1_1 l1_2) else (laws_FnExactZigzag.j1 kj26 a2 a3 t327 t330 t343 true a0_0 a0_1 l0_2 a1_0 a1_1 l1_2))))) = some r := H
        have A73 := zA A730
        clear A730
        replace H := Option.bind_eq_some_iff.mp H
        obtain ⟨⟨t362, t363⟩, A740, H⟩ := H
        replace H : (if t362 < 0 then (laws_FnExactZigzag.j1 kj26 a2 a3 t327 t330 t343 true a0_0 a0_1 l0_2 a1_0 a1_1 l1_2) else ((laws_eqMoveS.f kj26 t343 t327).bind fun t364 => (if t364 = true then (laws_FnExactZigzag.j1 kj26 a2 a3 t327 t330 t343 (t346 != t330) a0_0 a0_1 l0_2 a1_0 a1_1 l1_2) else (laws_FnExactZigzag.j1 kj26 a2 a3 t327 t330 t343 true a0_0 a0_1 l0_2 a1_0 a1_1 l1_2)))) = some r := H
        have A74 := zA A740
        clear A740
        have HC75 := zA H
        clear H
        try go_wp2
        have n0_ := zA (zG HO_10.out)
        have n1_ := zA (zG HO_14.out)
        have n2_ := zA (zG HO_337002.out)
        have n3_ := zA (zG HO_343002.out)
        have n4_ := zA (zN BK313.out)
        have n5_ := zA (zN BK314.out)
        have n6_ := zA (zN BK336.out)
        have n7_ := zA (zN BK342.out)
        have n8_ := zA (zQ HB.out)
        clear HO_10
        clear HO_14
        clear HO_337002
        clear HO_343002
        clear BK313
        clear BK314
        clear BK336
        clear BK342
        clear HB
        have HO_10 := n0_
        have HO_14 := n1_
        have HO_337002 := n2_
        have HO_343002 := n3_
        have BK313 := n4_
        have BK314 := n5_
        have BK336 := n6_
        have BK342 := n7_
        have HB := n8_
        clear n0_ n1_ n2_ n3_ n4_ n5_ n6_ n7_ n8_
        refine start_ (n := 5) (S := fun w' => w'.cell? ⟨gb336, 0, none⟩ = some (.int .i64 t331) ∧ w'.cell? ⟨gb336, 1, none⟩ = some (.int .i64 t332) ∧ w'.cell? ⟨gb336, 2, none⟩ = some (.slice Ao47 t333.length co47) ∧ w'.cell? ⟨gb313, 0, none⟩ = some (.int .i64 a0_0) ∧ w'.cell? ⟨gb313, 1, none⟩ = some (.int .i64 a0_1) ∧ w'.cell? ⟨gb313, 2, none⟩ = some (.slice A0_2 l0_2.length c0_2)) (ds := []) #[false, false, false, false, false] (by kernel_rfl) rfl rfl ⟨(blk_cell BK336.out 0).trans rfl, (blk_cell BK336.out 1).trans rfl, (blk_cell BK336.out 2).trans rfl, (blk_cell BK313.out 0).trans rfl, (blk_cell BK313.out 1).trans rfl, (blk_cell BK313.out 2).trans rfl⟩ (fun hHeld => ?_)
        generalize wc.drew = w76 at HO_10 HO_14 HO_337002 HO_343002 BK313 BK314 BK336 BK342 HB hHeld ⊢
        refine take_ (i := 0) (N := some 62) (v := ?_) (a' := ?_) #[true, false, false, false, false] rfl rfl (by kernel_rfl) (fun _ _ _ h => h) (Or.inl ⟨by rfl, ?_⟩) hHeld ?_ ?_
        rotate_left
        ·rintro w' ⟨s0, s1, s2, s3, s4, s5⟩
         go_simp
         with_reducible rfl
        rotate_left
        ·simp only [Act.put, zB, zC, zD, i64_w, i32_w]
         rfl
        refine take_ (i := 1) (N := some 63) (v := ?_) (a' := ?_) #[true, true, false, false, false] rfl rfl (by kernel_rfl) (fun _ _ _ h => h) (Or.inl ⟨by rfl, ?_⟩) hHeld ?_ ?_
        rotate_left
        ·rintro w' ⟨s0, s1, s2, s3, s4, s5⟩
         go_simp
         with_reducible rfl
        rotate_left
        ·simp only [Act.put, zB, zC, zD, i64_w, i32_w]
         rfl
        refine one_ (i := 2) (N := some 64) #[true, true, true, false, false] rfl rfl (by kernel_rfl) (by decide) (fun K hK => ?_)
        refine goes_ Try.func11 (by kernel_rfl) rfl #[.agg #[.int .i64 a0_0, .int .i64 a0_1, .slice A0_2 l0_2.length c0_2]] (by rfl) rfl rfl (by (try simp only [List.map_toArray, List.map_cons, List.map_nil]); first | done | rfl | (simp only [List.length_drop, List.length_take]; rfl)) ?_
        with_reducible refine (laws_toField.calls kj26 a0_0 a0_1 _ _ l0_2 t348 t349 t350 _ ?side1 ?side2 A67.out).mono ?_
        (case side1 => repeat (first | exact (Kd.C_below HR0_2.out HB.out) | (with_reducible refine zI ?_ _) | (with_reducible refine zH ?_ _) | (with_reducible refine zJ ?_)))
        (case side2 => exact HC0_2.out)
        rintro e w77 ⟨v351, rfl, ho0, hb⟩
        refine ⟨_, rfl, ?_⟩
        have n0_ := zA (zL (bC_ HO_10) hb)
        have n1_ := zA (zL (bC_ HO_14) hb)
        have n2_ := zA (Kd.R_elder' (bC_ HO_337002) (Kd.R_base ho0) hb)
        have n3_ := zA (Kd.R_elder' (bC_ HO_343002) (Kd.R_base ho0) hb)
        have n4_ := zA (Kd.R_lower (Kd.R_new' (Kd.R_new' ho0 (Kd.R_lt (bC_ HO_337002))) (Kd.R_lt (bC_ HO_343002))) (zT (bB_ HB)))
        have n5_ := zA (zU (g := gb313) (o := .cells #[.int .i64 a0_0, .int .i64 a0_1, .slice A0_2 l0_2.length c0_2] 24 (0, 0)) (bA_ BK313) hb)
        have n6_ := zA (zU (g := gb314) (o := .cells #[.int .i64 a1_0, .int .i64 a1_1, .slice A1_2 l1_2.length c1_2] 24 (0, 0)) (bA_ BK314) hb)
        have n7_ := zA (zU (g := gb336) (o := .cells #[.int .i64 t331, .int .i64 t332, .slice Ao47 t333.length co47] 26 (0, 0)) (bA_ BK336) hb)
        have n8_ := zA (zU (g := gb342) (o := .cells #[.int .i64 t337, .int .i64 t338, .slice Ao55 t339.length co55] 26 (0, 0)) (bA_ BK342) hb)
        have n9_ := zA (below_step (bB_ HB) hb)
        clear HO_10
        clear HO_14
        clear HO_337002
        clear HO_343002
        clear BK313
        clear BK314
        clear BK336
        clear BK342
        clear HB
        have HO_10 := n0_
        have HO_14 := n1_
        have HO_337002 := n2_
        have HO_343002 := n3_
        have HO352 := n4_
        have BK313 := n5_
        have BK314 := n6_
        have BK336 := n7_
        have BK342 := n8_
        have HB := n9_
        clear n0_ n1_ n2_ n3_ n4_ n5_ n6_ n7_ n8_ n9_
        (try clear hb)
        (try clear hb2)
        (try clear hk)
        (try clear hi)
        (try clear ho0)
        obtain ⟨Ao78, co78, eo78⟩ := Kd.R_slice HO352.out
        (first | subst eo78 | (injection eo78 with f1_ f2_ f3_; have f4_ := f1_.symm; have f5_ := f3_.symm; clear f1_ f2_ f3_; subst f4_; subst f5_))
        refine hK.out _ _ ⟨(blk_cell BK336.out 0).trans rfl, (blk_cell BK336.out 1).trans rfl, (blk_cell BK336.out 2).trans rfl, (blk_cell BK313.out 0).trans rfl, (blk_cell BK313.out 1).trans rfl, (blk_cell BK313.out 2).trans rfl⟩ (fun hHeld => ?_)
        clear hK K
        refine norm_ (a' := ?_) ?_ ?_
        rotate_left
        ·show Act.put _ (some 64) _ = _
         simp only [Act.put, zB, zC, zD, i64_w, i32_w]
         rfl
        refine one_ (i := 3) (N := some 65) #[true, true, true, true, false] rfl rfl (by kernel_rfl) (by decide) (fun K hK => ?_)
        refine goes_ Try.func13 (by kernel_rfl) rfl #[.agg #[.int .i64 t331, .int .i64 t332, .slice Ao47 t333.length co47], .agg #[.int .i64 t348, .int .i64 t349, .slice Ao78 t350.length co78]] (by rfl) rfl rfl (by (try simp only [List.map_toArray, List.map_cons, List.map_nil]); first | done | rfl | (simp only [List.length_drop, List.length_take]; rfl)) ?_
        with_reducible refine (laws_eqField.calls kj26 t331 t332 _ _ t333 t348 t349 _ _ t350 true _ ?side1 ?side2 ?side3 ?side4 A68.out).mono ?_
        (case side1 => repeat (first | exact (zK HO_337002.out).2.2 | (with_reducible refine zI ?_ _) | (with_reducible refine zH ?_ _) | (with_reducible refine zJ ?_)))
        (case side2 => exact (zK HO_337002.out).2.1)
        (case side3 => repeat (first | exact (zK HO352.out).2.2 | (with_reducible refine zI ?_ _) | (with_reducible refine zH ?_ _) | (with_reducible refine zJ ?_)))
        (case side4 => exact (zK HO352.out).2.1)
        rintro e w79 ⟨rfl, hb⟩
        refine ⟨_, rfl, ?_⟩
        have n0_ := zA (zL (bC_ HO_10) hb)
        have n1_ := zA (zL (bC_ HO_14) hb)
        have n2_ := zA (zL (bC_ HO_337002) hb)
        have n3_ := zA (zL (bC_ HO_343002) hb)
        have n4_ := zA (zL (bC_ HO352) hb)
        have n5_ := zA (zU (g := gb313) (o := .cells #[.int .i64 a0_0, .int .i64 a0_1, .slice A0_2 l0_2.length c0_2] 24 (0, 0)) (bA_ BK313) hb)
        have n6_ := zA (zU (g := gb314) (o := .cells #[.int .i64 a1_0, .int .i64 a1_1, .slice A1_2 l1_2.length c1_2] 24 (0, 0)) (bA_ BK314) hb)
        have n7_ := zA (zU (g := gb336) (o := .cells #[.int .i64 t331, .int .i64 t332, .slice Ao47 t333.length co47] 26 (0, 0)) (bA_ BK336) hb)
        have n8_ := zA (zU (g := gb342) (o := .cells #[.int .i64 t337, .int .i64 t338, .slice Ao55 t339.length co55] 26 (0, 0)) (bA_ BK342) hb)
        have n9_ := zA (below_step (bB_ HB) hb)
        clear HO_10
        clear HO_14
        clear HO_337002
        clear HO_343002
        clear HO352
        clear BK313
        clear BK314
        clear BK336
        clear BK342
        clear HB
        have HO_10 := n0_
        have HO_14 := n1_
        have HO_337002 := n2_
        have HO_343002 := n3_
        have HO352 := n4_
        have BK313 := n5_
        have BK314 := n6_
        have BK336 := n7_
        have BK342 := n8_
        have HB := n9_
        clear n0_ n1_ n2_ n3_ n4_ n5_ n6_ n7_ n8_ n9_
        (try clear hb)
        (try clear hb2)
        (try clear hk)
        (try clear hi)
        refine hK.out _ _ ⟨(blk_cell BK336.out 0).trans rfl, (blk_cell BK336.out 1).trans rfl, (blk_cell BK336.out 2).trans rfl, (blk_cell BK313.out 0).trans rfl, (blk_cell BK313.out 1).trans rfl, (blk_cell BK313.out 2).trans rfl⟩ (fun hHeld => ?_)
        clear hK K
        refine norm_ (a' := ?_) ?_ ?_
        rotate_left
        ·show Act.put _ (some 65) _ = _
         simp only [Act.put, zB, zC, zD, i64_w, i32_w]
         rfl
        refine pure_ (i := 4) (N := some 66) (v := ?_) (a' := ?_) #[true, true, true, true, true] rfl rfl (by kernel_rfl) (fun _ _ _ h => h) (Or.inl ⟨by rfl, ?_⟩) ?_ ?_
        rotate_left
        ·intro w'
         go_simp
         with_reducible rfl
        rotate_left
        ·simp only [Act.put, zB, zC, zD, i64_w, i32_w]
         rfl
        refine done_ (by kernel_rfl) ?_
        try go_wp2
        have n0_ := zA (zG HO_10.out)
        have n1_ := zA (zG HO_14.out)
        have n2_ := zA (zG HO_337002.out)
        have n3_ := zA (zG HO_343002.out)
        have n4_ := zA (zG HO352.out)
        have n5_ := zA (zN BK313.out)
        have n6_ := zA (zN BK314.out)
        have n7_ := zA (zN BK336.out)
        have n8_ := zA (zN BK342.out)
        have n9_ := zA (zQ HB.out)
        clear HO_10
        clear HO_14
        clear HO_337002
        clear HO_343002
        clear HO352
        clear BK313
        clear BK314
        clear BK336
        clear BK342
        clear HB
        have HO_10 := n0_
        have HO_14 := n1_
        have HO_337002 := n2_
        have HO_343002 := n3_
        have HO352 := n4_
        have BK313 := n5_
        have BK314 := n6_
        have BK336 := n7_
        have BK342 := n8_
        have HB := n9_
        clear n0_ n1_ n2_ n3_ n4_ n5_ n6_ n7_ n8_ n9_
        refine start_ (n := 5) (S := fun w' => w'.cell? ⟨gb342, 0, none⟩ = some (.int .i64 t337) ∧ w'.cell? ⟨gb342, 1, none⟩ = some (.int .i64 t338) ∧ w'.cell? ⟨gb342, 2, none⟩ = some (.slice Ao55 t339.length co55) ∧ w'.cell? ⟨gb314, 0, none⟩ = some (.int .i64 a1_0) ∧ w'.cell? ⟨gb314, 1, none⟩ = some (.int .i64 a1_1) ∧ w'.cell? ⟨gb314, 2, none⟩ = some (.slice A1_2 l1_2.length c1_2)) (ds := []) #[false, false, false, false, false] (by kernel_rfl) rfl rfl ⟨(blk_cell BK342.out 0).trans rfl, (blk_cell BK342.out 1).trans rfl, (blk_cell BK342.out 2).trans rfl, (blk_cell BK314.out 0).trans rfl, (blk_cell BK314.out 1).trans rfl, (blk_cell BK314.out 2).trans rfl⟩ (fun hHeld => ?_)
        generalize w79.drew = w80 at HO_10 HO_14 HO_337002 HO_343002 HO352 BK313 BK314 BK336 BK342 HB hHeld ⊢
        refine take_ (i := 0) (N := some 67) (v := ?_) (a' := ?_) #[true, false, false, false, false] rfl rfl (by kernel_rfl) (fun _ _ _ h => h) (Or.inl ⟨by rfl, ?_⟩) hHeld ?_ ?_
        rotate_left
        ·rintro w' ⟨s0, s1, s2, s3, s4, s5⟩
         go_simp
         with_reducible rfl
        rotate_left
        ·simp only [Act.put, zB, zC, zD, i64_w, i32_w]
         rfl
        refine take_ (i := 1) (N := some 68) (v := ?_) (a' := ?_) #[true, true, false, false, false] rfl rfl (by kernel_rfl) (fun _ _ _ h => h) (Or.inl ⟨by rfl, ?_⟩) hHeld ?_ ?_
        rotate_left
        ·rintro w' ⟨s0, s1, s2, s3, s4, s5⟩
         go_simp
         with_reducible rfl
        rotate_left
        ·simp only [Act.put, zB, zC, zD, i64_w, i32_w]
         rfl
        refine one_ (i := 2) (N := some 69) #[true, true, true, false, false] rfl rfl (by kernel_rfl) (by decide) (fun K hK => ?_)
        refine goes_ Try.func11 (by kernel_rfl) rfl #[.agg #[.int .i64 a1_0, .int .i64 a1_1, .slice A1_2 l1_2.length c1_2]] (by rfl) rfl rfl (by (try simp only [List.map_toArray, List.map_cons, List.map_nil]); first | done | rfl | (simp only [List.length_drop, List.length_take]; rfl)) ?_
        with_reducible refine (laws_toField.calls kj26 a1_0 a1_1 _ _ l1_2 t354 t355 t356 _ ?side1 ?side2 A70.out).mono ?_
        (case side1 => repeat (first | exact (Kd.C_below HR1_2.out HB.out) | (with_reducible refine zI ?_ _) | (with_reducible refine zH ?_ _) | (with_reducible refine zJ ?_)))
        (case side2 => exact HC1_2.out)
        rintro e w81 ⟨v357, rfl, ho0, hb⟩
        refine ⟨_, rfl, ?_⟩
        have n0_ := zA (zL (bC_ HO_10) hb)
        have n1_ := zA (zL (bC_ HO_14) hb)
        have n2_ := zA (Kd.R_elder' (bC_ HO_337002) (Kd.R_base ho0) hb)
        have n3_ := zA (Kd.R_elder' (bC_ HO_343002) (Kd.R_base ho0) hb)
        have n4_ := zA (Kd.R_elder' (bC_ HO352) (Kd.R_base ho0) hb)
        have n5_ := zA (Kd.R_lower (Kd.R_new' (Kd.R_new' (Kd.R_new' ho0 (Kd.R_lt (bC_ HO_337002))) (Kd.R_lt (bC_ HO_343002))) (Kd.R_lt (bC_ HO352))) (zT (bB_ HB)))
        have n6_ := zA (zU (g := gb313) (o := .cells #[.int .i64 a0_0, .int .i64 a0_1, .slice A0_2 l0_2.length c0_2] 24 (0, 0)) (bA_ BK313) hb)
        have n7_ := zA (zU (g := gb314) (o := .cells #[.int .i64 a1_0, .int .i64 a1_1, .slice A1_2 l1_2.length c1_2] 24 (0, 0)) (bA_ BK314) hb)
        have n8_ := zA (zU (g := gb336) (o := .cells #[.int .i64 t331, .int .i64 t332, .slice Ao47 t333.length co47] 26 (0, 0)) (bA_ BK336) hb)
        have n9_ := zA (zU (g := gb342) (o := .cells #[.int .i64 t337, .int .i64 t338, .slice Ao55 t339.length co55] 26 (0, 0)) (bA_ BK342) hb)
        have n10_ := zA (below_step (bB_ HB) hb)
        clear HO_10
        clear HO_14
        clear HO_337002
        clear HO_343002
        clear HO352
        clear BK313
        clear BK314
        clear BK336
        clear BK342
        clear HB
        have HO_10 := n0_
        have HO_14 := n1_
        have HO_337002 := n2_
        have HO_343002 := n3_
        have HO352 := n4_
        have HO358 := n5_
        have BK313 := n6_
        have BK314 := n7_
        have BK336 := n8_
        have BK342 := n9_
        have HB := n10_
        clear n0_ n1_ n2_ n3_ n4_ n5_ n6_ n7_ n8_ n9_ n10_
        (try clear hb)
        (try clear hb2)
        (try clear hk)
        (try clear hi)
        (try clear ho0)
        obtain ⟨Ao82, co82, eo82⟩ := Kd.R_slice HO358.out
        (first | subst eo82 | (injection eo82 with f1_ f2_ f3_; have f4_ := f1_.symm; have f5_ := f3_.symm; clear f1_ f2_ f3_; subst f4_; subst f5_))
        refine hK.out _ _ ⟨(blk_cell BK342.out 0).trans rfl, (blk_cell BK342.out 1).trans rfl, (blk_cell BK342.out 2).trans rfl, (blk_cell BK314.out 0).trans rfl, (blk_cell BK314.out 1).trans rfl, (blk_cell BK314.out 2).trans rfl⟩ (fun hHeld => ?_)
        clear hK K
        refine norm_ (a' := ?_) ?_ ?_
        rotate_left
        ·show Act.put _ (some 69) _ = _
         simp only [Act.put, zB, zC, zD, i64_w, i32_w]
         rfl
        refine one_ (i := 3) (N := some 70) #[true, true, true, true, false] rfl rfl (by kernel_rfl) (by decide) (fun K hK => ?_)
        refine goes_ Try.func13 (by kernel_rfl) rfl #[.agg #[.int .i64 t337, .int .i64 t338, .slice Ao55 t339.length co55], .agg #[.int .i64 t354, .int .i64 t355, .slice Ao82 t356.length co82]] (by rfl) rfl rfl (by (try simp only [List.map_toArray, List.map_cons, List.map_nil]); first | done | rfl | (simp only [List.length_drop, List.length_take]; rfl)) ?_
        with_reducible refine (laws_eqField.calls kj26 t337 t338 _ _ t339 t354 t355 _ _ t356 true _ ?side1 ?side2 ?side3 ?side4 A71.out).mono ?_
        (case side1 => repeat (first | exact (zK HO_343002.out).2.2 | (with_reducible refine zI ?_ _) | (with_reducible refine zH ?_ _) | (with_reducible refine zJ ?_)))
        (case side2 => exact (zK HO_343002.out).2.1)
        (case side3 => repeat (first | exact (zK HO358.out).2.2 | (with_reducible refine zI ?_ _) | (with_reducible refine zH ?_ _) | (with_reducible refine zJ ?_)))
        (case side4 => exact (zK HO358.out).2.1)
        rintro e w83 ⟨rfl, hb⟩
        refine ⟨_, rfl, ?_⟩
        have n0_ := zA (zL (bC_ HO_10) hb)
        have n1_ := zA (zL (bC_ HO_14) hb)
        have n2_ := zA (zL (bC_ HO_337002) hb)
        have n3_ := zA (zL (bC_ HO_343002) hb)
        have n4_ := zA (zL (bC_ HO352) hb)
        have n5_ := zA (zL (bC_ HO358) hb)
        have n6_ := zA (zU (g := gb313) (o := .cells #[.int .i64 a0_0, .int .i64 a0_1, .slice A0_2 l0_2.length c0_2] 24 (0, 0)) (bA_ BK313) hb)
        have n7_ := zA (zU (g := gb314) (o := .cells #[.int .i64 a1_0, .int .i64 a1_1, .slice A1_2 l1_2.length c1_2] 24 (0, 0)) (bA_ BK314) hb)
        have n8_ := zA (zU (g := gb336) (o := .cells #[.int .i64 t331, .int .i64 t332, .slice Ao47 t333.length co47] 26 (0, 0)) (bA_ BK336) hb)
        have n9_ := zA (zU (g := gb342) (o := .cells #[.int .i64 t337, .int .i64 t338, .slice Ao55 t339.length co55] 26 (0, 0)) (bA_ BK342) hb)
        have n10_ := zA (below_step (bB_ HB) hb)
        clear HO_10
        clear HO_14
        clear HO_337002
        clear HO_343002
        clear HO352
        clear HO358
        clear BK313
        clear BK314
        clear BK336
        clear BK342
        clear HB
        have HO_10 := n0_
        have HO_14 := n1_
        have HO_337002 := n2_
        have HO_343002 := n3_
        have HO352 := n4_
        have HO358 := n5_
        have BK313 := n6_
        have BK314 := n7_
        have BK336 := n8_
        have BK342 := n9_
        have HB := n10_
        clear n0_ n1_ n2_ n3_ n4_ n5_ n6_ n7_ n8_ n9_ n10_
        (try clear hb)
        (try clear hb2)
        (try clear hk)
        (try clear hi)
        refine hK.out _ _ ⟨(blk_cell BK342.out 0).trans rfl, (blk_cell BK342.out 1).trans rfl, (blk_cell BK342.out 2).trans rfl, (blk_cell BK314.out 0).trans rfl, (blk_cell BK314.out 1).trans rfl, (blk_cell BK314.out 2).trans rfl⟩ (fun hHeld => ?_)
        clear hK K
        refine norm_ (a' := ?_) ?_ ?_
        rotate_left
        ·show Act.put _ (some 70) _ = _
         simp only [Act.put, zB, zC, zD, i64_w, i32_w]
         rfl
        refine pure_ (i := 4) (N := some 71) (v := ?_) (a' := ?_) #[true, true, true, true, true] rfl rfl (by kernel_rfl) (fun _ _ _ h => h) (Or.inl ⟨by rfl, ?_⟩) ?_ ?_
        rotate_left
        ·intro w'
         go_simp
         with_reducible rfl
        rotate_left
        ·simp only [Act.put, zB, zC, zD, i64_w, i32_w]
         rfl
        refine done_ (by kernel_rfl) ?_
        have hnb84 := NB336_313.out
        have hnc84 := NB313_336.out
        have hnb85 := NB336_314.out
        have hnc85 := NB314_336.out
        have hnb86 := NB336_342.out
        have hnc86 := NB342_336.out
        have hcz87_0 : w83.cell? ⟨gb336, 0, none⟩ = some (.int .i64 t331) := (blk_cell BK336.out 0).trans rfl
        have hcz87_1 : w83.cell? ⟨gb336, 1, none⟩ = some (.int .i64 t332) := (blk_cell BK336.out 1).trans rfl
        have hcz87_2 : w83.cell? ⟨gb336, 2, none⟩ = some (.slice Ao47 t333.length co47) := (blk_cell BK336.out 2).trans rfl
        have hfz87_0 := blk_frozen BK336.out 0
        have hfz87_1 := blk_frozen BK336.out 1
        have hfz87_2 := blk_frozen BK336.out 2
        go_upto_region 21 with (first | ((with_reducible refine gate_callee (f := 14) rfl ?_); refine goesL_ (some 74) rfl rfl Try.func14 (by kernel_rfl) rfl #[.agg #[.int .i64 t331, .int .i64 t332, .slice Ao47 t333.length co47], .int .i64 1] rfl (by (try simp only [List.map_toArray, List.map_cons, List.map_nil]); first | done | rfl | (simp only [List.length_drop, List.length_take]; rfl)) ?_; (with_reducible refine (laws_markField.calls kj26 t331 t332 (fun k_ => some k_ = (.slice Ao47 t333.length co47 : Value).ownBlock) (.slice Ao47 t333.length co47) t333 1 t360 t361 w _ ?side1 ?side2 A73.out).mono ?_); (case side1 => repeat (first | (with_reducible first | exact HB.out | apply zR | apply zP | apply zQ | refine zS ?_ GE313.out | refine zS ?_ GE314.out | refine zS ?_ GE336.out | refine zS ?_ GE342.out) | exact HB.out)); (case side2 => exact Kd.R_tight rfl HO_337002.out); rintro e w88 ⟨rfl, hy0, hb, hkp⟩; refine ⟨_, rfl, ?_⟩; have n0_ := zA (Kd.R_mono (ok' := fun k_ => some k_ ≠ (v344 : Value).ownBlock) (Kd.R_keptB ((Kd.R_apart' HO_10.out (Kd.R_typed HO_337002.out) (by decide))) hkp (fun k_ hk_ hs_ => (hk_.2) hs_)) (fun k_ hk_ => hk_.1.1)); have n1_ := zA (Kd.R_mono (ok' := fun k_ => some k_ ≠ (v328 : Value).ownBlock) (Kd.R_keptB ((Kd.R_apart' HO_14.out (Kd.R_typed HO_337002.out) (by decide))) hkp (fun k_ hk_ hs_ => (hk_.2) hs_)) (fun k_ hk_ => hk_.1.1)); have n2_ := zA (Kd.R_reok rfl hy0 (fun k_ e_ => HO_337002.out.1 k_ e_)); have n3_ := zA (Kd.R_mono (ok' := fun k_ => some k_ ≠ (.slice Ao47 t333.length co47 : Value).ownBlock ∧ some k_ ≠ (.slice Ao78 t350.length co78 : Value).ownBlock ∧ some k_ ≠ (.slice Ao82 t356.length co82 : Value).ownBlock) (Kd.R_keptB (HO_343002.out) hkp (fun k_ hk_ hs_ => (hk_.1.1) hs_)) (fun k_ hk_ => ⟨hk_.1.1.1, hk_.1.1.2, hk_.1.2⟩)); have n4_ := zA (blk_kept (bA_ BK313) hkp (fun hs_ => (fun e_ => (Kd.R_ne HO_337002.out BK313.out (by decide)) e_) hs_)); have n5_ := zA (blk_kept (bA_ BK314) hkp (fun hs_ => (fun e_ => (Kd.R_ne HO_337002.out BK314.out (by decide)) e_) hs_)); have n6_ := zA (blk_kept (bA_ BK336) hkp (fun hs_ => (fun e_ => (Kd.R_ne HO_337002.out BK336.out (by decide)) e_) hs_)); have n7_ := zA (blk_kept (bA_ BK342) hkp (fun hs_ => (fun e_ => (Kd.R_ne HO_337002.out BK342.out (by decide)) e_) hs_)); have n8_ := zA (Kd.R_mono (ok' := fun k_ => some k_ ≠ (.slice Ao47 t333.length co47 : Value).ownBlock ∧ some k_ ≠ (.slice Ao55 t339.length co55 : Value).ownBlock ∧ some k_ ≠ (.slice Ao82 t356.length co82 : Value).ownBlock) (Kd.R_keptB (HO352.out) hkp (fun k_ hk_ hs_ => (hk_.1.1.2) hs_)) (fun k_ hk_ => ⟨hk_.1.1.1.2, hk_.1.1.2, hk_.1.2⟩)); have n9_ := zA (Kd.R_mono (ok' := fun k_ => some k_ ≠ (.slice Ao47 t333.length co47 : Value).ownBlock ∧ some k_ ≠ (.slice Ao55 t339.length co55 : Value).ownBlock ∧ some k_ ≠ (.slice Ao78 t350.length co78 : Value).ownBlock) (Kd.R_keptB (HO358.out) hkp (fun k_ hk_ hs_ => (hk_.1.1.2) hs_)) (fun k_ hk_ => ⟨hk_.1.1.1.2, hk_.1.1.2, hk_.1.2⟩)); have n10_ := zA (hb); clear HO_10; clear HO_14; clear HO_337002; clear HO_343002; clear BK313; clear BK314; clear BK336; clear BK342; clear HO352; clear HO358; clear HB; have HO_10 := n0_; have HO_14 := n1_; have HO_337002 := n2_; have HO_343002 := n3_; have BK313 := n4_; have BK314 := n5_; have BK336 := n6_; have BK342 := n7_; have HO352 := n8_; have HO358 := n9_; have HB := n10_; clear n0_ n1_ n2_ n3_ n4_ n5_ n6_ n7_ n8_ n9_ n10_; (try clear hb); (try clear hkp); (try clear hy0); have hnb89 := NB342_313.out; have hnc89 := NB313_342.out; have hnb90 := NB342_314.out; have hnc90 := NB314_342.out; have hcz91_0 : w88.cell? ⟨gb342, 0, none⟩ = some (.int .i64 t337) := (blk_cell BK342.out 0).trans rfl; have hcz91_1 : w88.cell? ⟨gb342, 1, none⟩ = some (.int .i64 t338) := (blk_cell BK342.out 1).trans rfl; have hcz91_2 : w88.cell? ⟨gb342, 2, none⟩ = some (.slice Ao55 t339.length co55) := (blk_cell BK342.out 2).trans rfl; have hfz91_0 := blk_frozen BK342.out 0; have hfz91_1 := blk_frozen BK342.out 1; have hfz91_2 := blk_frozen BK342.out 2) | ((with_reducible refine gate_callee (f := 14) rfl ?_); refine goesL_ (some 77) rfl rfl Try.func14 (by kernel_rfl) rfl #[.agg #[.int .i64 t337, .int .i64 t338, .slice Ao55 t339.length co55], .int .i64 t360] rfl (by (try simp only [List.map_toArray, List.map_cons, List.map_nil]); first | done | rfl | (simp only [List.length_drop, List.length_take]; rfl)) ?_; (with_reducible refine (laws_markField.calls kj26 t337 t338 (fun k_ => some k_ = (.slice Ao55 t339.length co55 : Value).ownBlock) (.slice Ao55 t339.length co55) t339 t360 t362 t363 w _ ?side1 ?side2 A74.out).mono ?_); (case side1 => repeat (first | (with_reducible first | exact HB.out | apply zR | apply zP | apply zQ | refine zS ?_ GE313.out | refine zS ?_ GE314.out | refine zS ?_ GE336.out | refine zS ?_ GE342.out) | exact HB.out)); (case side2 => exact Kd.R_tight rfl HO_343002.out); rintro e w92 ⟨rfl, hy0, hb, hkp⟩; refine ⟨_, rfl, ?_⟩; have n0_ := zA (Kd.R_mono (ok' := fun k_ => some k_ ≠ (v344 : Value).ownBlock) (Kd.R_keptB ((Kd.R_apart' HO_10.out (Kd.R_typed HO_343002.out) (by decide))) hkp (fun k_ hk_ hs_ => (hk_.2) hs_)) (fun k_ hk_ => hk_.1.1)); have n1_ := zA (Kd.R_mono (ok' := fun k_ => some k_ ≠ (v328 : Value).ownBlock) (Kd.R_keptB ((Kd.R_apart' HO_14.out (Kd.R_typed HO_343002.out) (by decide))) hkp (fun k_ hk_ hs_ => (hk_.2) hs_)) (fun k_ hk_ => hk_.1.1)); have n2_ := zA (Kd.R_mono (ok' := fun k_ => some k_ ≠ (.slice Ao55 t339.length co55 : Value).ownBlock ∧ some k_ ≠ (.slice Ao78 t350.length co78 : Value).ownBlock ∧ some k_ ≠ (.slice Ao82 t356.length co82 : Value).ownBlock) (Kd.R_keptB (HO_337002.out) hkp (fun k_ hk_ hs_ => (hk_.1.1) hs_)) (fun k_ hk_ => ⟨hk_.1.1.1, hk_.1.1.2, hk_.1.2⟩)); have n3_ := zA (Kd.R_reok rfl hy0 (fun k_ e_ => HO_343002.out.1 k_ e_)); have n4_ := zA (blk_kept (bA_ BK313) hkp (fun hs_ => (fun e_ => (Kd.R_ne HO_343002.out BK313.out (by decide)) e_) hs_)); have n5_ := zA (blk_kept (bA_ BK314) hkp (fun hs_ => (fun e_ => (Kd.R_ne HO_343002.out BK314.out (by decide)) e_) hs_)); have n6_ := zA (blk_kept (bA_ BK336) hkp (fun hs_ => (fun e_ => (Kd.R_ne HO_343002.out BK336.out (by decide)) e_) hs_)); have n7_ := zA (blk_kept (bA_ BK342) hkp (fun hs_ => (fun e_ => (Kd.R_ne HO_343002.out BK342.out (by decide)) e_) hs_)); have n8_ := zA (Kd.R_mono (ok' := fun k_ => some k_ ≠ (.slice Ao47 t333.length co47 : Value).ownBlock ∧ some k_ ≠ (.slice Ao55 t339.length co55 : Value).ownBlock ∧ some k_ ≠ (.slice Ao82 t356.length co82 : Value).ownBlock) (Kd.R_keptB (HO352.out) hkp (fun k_ hk_ hs_ => (hk_.2.1) hs_)) (fun k_ hk_ => ⟨hk_.1.1, hk_.1.2.1, hk_.1.2.2⟩)); have n9_ := zA (Kd.R_mono (ok' := fun k_ => some k_ ≠ (.slice Ao47 t333.length co47 : Value).ownBlock ∧ some k_ ≠ (.slice Ao55 t339.length co55 : Value).ownBlock ∧ some k_ ≠ (.slice Ao78 t350.length co78 : Value).ownBlock) (Kd.R_keptB (HO358.out) hkp (fun k_ hk_ hs_ => (hk_.2.1) hs_)) (fun k_ hk_ => ⟨hk_.1.1, hk_.1.2.1, hk_.1.2.2⟩)); have n10_ := zA (hb); clear HO_10; clear HO_14; clear HO_337002; clear HO_343002; clear BK313; clear BK314; clear BK336; clear BK342; clear HO352; clear HO358; clear HB; have HO_10 := n0_; have HO_14 := n1_; have HO_337002 := n2_; have HO_343002 := n3_; have BK313 := n4_; have BK314 := n5_; have BK336 := n6_; have BK342 := n7_; have HO352 := n8_; have HO358 := n9_; have HB := n10_; clear n0_ n1_ n2_ n3_ n4_ n5_ n6_ n7_ n8_ n9_ n10_; (try clear hb); (try clear hkp); (try clear hy0)))
        (try simp only [Act.put, zB, zC, zD])
        go_cut [90] (fun v90 wc => ∃ (kq : Nat) (x90_74 : Bool), v90 = .bool x90_74 ∧ Aside0 (laws_FnExactZigzag.j1 kq a2 a3 t327 t330 t343 x90_74 a0_0 a0_1 l0_2 a1_0 a1_1 l1_2 = some r) ∧ Aside0 (kq ≤ kj26) ∧ Aside0 (Kd.R k61 61 wc w.heap.size (fun k_ => some k_ ≠ (v344 : Value).ownBlock) v328 t327) ∧ Aside0 (Kd.R k61 61 wc w.heap.size (fun k_ => some k_ ≠ (v328 : Value).ownBlock) v344 t343) ∧ Aside0 (Kd.R (Kd.int .i64) 3 wc w.heap.size (fun k_ => some k_ ≠ ((.slice Ao55 t339.length co55) : Value).ownBlock) (.slice Ao47 t333.length co47) t361) ∧ Aside0 (Kd.R (Kd.int .i64) 3 wc w.heap.size (fun k_ => some k_ ≠ ((.slice Ao47 t333.length co47) : Value).ownBlock) (.slice Ao55 t339.length co55) t363) ∧ Aside0 (wc.heap[gb313]? = some (.cells #[.int .i64 a0_0, .int .i64 a0_1, (.slice A0_2 l0_2.length c0_2)] 24 (0, 0))) ∧ Aside0 (wc.heap[gb314]? = some (.cells #[.int .i64 a1_0, .int .i64 a1_1, (.slice A1_2 l1_2.length c1_2)] 24 (0, 0))) ∧ Aside0 (wc.heap[gb336]? = some (.cells #[.int .i64 t331, .int .i64 t332, (.slice Ao47 t333.length co47)] 26 (0, 0))) ∧ Aside0 (wc.heap[gb342]? = some (.cells #[.int .i64 t337, .int .i64 t338, (.slice Ao55 t339.length co55)] 26 (0, 0))) ∧ Aside0 (Below w.heap.size w wc))
        case first =>
         have H := HC75.out
         clear HC75
         by_cases c93 : t362 < 0
         ·rw [if_pos c93] at H
          have c93b0 : decide (t362 < 0) = true := decide_eq_true c93
          clear c93
          (first | rw [c93b0] | (simp only [i64_w, i32_w]; rw [c93b0]) | skip)
          have H' := zA H
          clear H
          go_wp2
          go_meet
          case rel => exact ⟨_, (true), (by first | rfl | (simp; done) | (simp [*]; done)), H', ⟨by have := HJ26.out; first | omega | exact Nat.le_refl _⟩, ⟨bC_ HO_10⟩, ⟨bC_ HO_14⟩, ⟨by (with_reducible repeat (first | apply zF | apply zE | apply zG)); exact Kd.R_mono HO_337002.out (fun _ hk => hk.1)⟩, ⟨by (with_reducible repeat (first | apply zF | apply zE | apply zG)); exact Kd.R_mono HO_343002.out (fun _ hk => hk.1)⟩, ⟨bA_ BK313⟩, ⟨bA_ BK314⟩, ⟨bA_ BK336⟩, ⟨bA_ BK342⟩, ⟨bB_ HB⟩⟩
         ·rw [if_neg c93] at H
          have c93b0 : decide (t362 < 0) = false := decide_eq_false c93
          clear c93
          (first | rw [c93b0] | (simp only [i64_w, i32_w]; rw [c93b0]) | skip)
          replace H := Option.bind_eq_some_iff.mp H
          obtain ⟨t364, A940, H⟩ := H
          replace H : (if t364 = true then (laws_FnExactZigzag.j1 kj26 a2 a3 t327 t330 t343 (t346 != t330) a0_0 a0_1 l0_2 a1_0 a1_1 l1_2) else (laws_FnExactZigzag.j1 kj26 a2 a3 t327 t330 t343 true a0_0 a0_1 l0_2 a1_0 a1_1 l1_2)) = some r := H
          have A94 := zA A940
          clear A940
          by_cases c95 : t364 = true
          ·subst c95
           have H1 : (laws_FnExactZigzag.j1 kj26 a2 a3 t327 t330 t343 (t346 != t330) a0_0 a0_1 l0_2 a1_0 a1_1 l1_2) = some r := by rw [if_pos rfl] at H; exact H
           clear H
           have H := H1
           clear H1
           have H' := zA H
           clear H
           obtain ⟨Ao96, co96, eo96⟩ := Kd.R_slice HO_14.out
           subst eo96
           obtain ⟨Ao97, co97, eo97⟩ := Kd.R_slice HO_10.out
           subst eo97
           go_wp2_with (first | (go_at_call 29; (with_reducible refine (laws_eqMoveS.calls kj26 _ _ t343 _ _ t327 true _ ?side1 ?side2 ?side3 ?side4 A94.out).mono ?_); (case side1 => repeat (first | exact (zK HO_14.out).2.2 | (with_reducible refine zI ?_ _) | (with_reducible refine zH ?_ _) | (with_reducible refine zJ ?_))); (case side2 => exact (zK HO_14.out).2.1); (case side3 => repeat (first | exact (zK HO_10.out).2.2 | (with_reducible refine zI ?_ _) | (with_reducible refine zH ?_ _) | (with_reducible refine zJ ?_))); (case side4 => exact (zK HO_10.out).2.1); rintro e w98 ⟨rfl, hb⟩; have n0_ := zA (zL (bC_ HO_10) hb); have n1_ := zA (zL (bC_ HO_14) hb); have n2_ := zA (zL (bC_ HO_337002) hb); have n3_ := zA (zL (bC_ HO_343002) hb); have n4_ := zA (zL (bC_ HO352) hb); have n5_ := zA (zL (bC_ HO358) hb); have n6_ := zA (zU (g := gb313) (o := .cells #[.int .i64 a0_0, .int .i64 a0_1, .slice A0_2 l0_2.length c0_2] 24 (0, 0)) (bA_ BK313) hb); have n7_ := zA (zU (g := gb314) (o := .cells #[.int .i64 a1_0, .int .i64 a1_1, .slice A1_2 l1_2.length c1_2] 24 (0, 0)) (bA_ BK314) hb); have n8_ := zA (zU (g := gb336) (o := .cells #[.int .i64 t331, .int .i64 t332, .slice Ao47 t333.length co47] 26 (0, 0)) (bA_ BK336) hb); have n9_ := zA (zU (g := gb342) (o := .cells #[.int .i64 t337, .int .i64 t338, .slice Ao55 t339.length co55] 26 (0, 0)) (bA_ BK342) hb); have n10_ := zA (below_step (bB_ HB) hb); clear HO_10; clear HO_14; clear HO_337002; clear HO_343002; clear HO352; clear HO358; clear BK313; clear BK314; clear BK336; clear BK342; clear HB; have HO_10 := n0_; have HO_14 := n1_; have HO_337002 := n2_; have HO_343002 := n3_; have HO352 := n4_; have HO358 := n5_; have BK313 := n6_; have BK314 := n7_; have BK336 := n8_; have BK342 := n9_; have HB := n10_; clear n0_ n1_ n2_ n3_ n4_ n5_ n6_ n7_ n8_ n9_ n10_; (try clear hb); (try clear hb2); (try clear hk); (try clear hi)))
           go_meet
           case rel => exact ⟨_, ((t346 != t330)), (by first | rfl | (simp; done) | (simp [*]; done)), H', ⟨by have := HJ26.out; first | omega | exact Nat.le_refl _⟩, ⟨bC_ HO_10⟩, ⟨bC_ HO_14⟩, ⟨by (with_reducible repeat (first | apply zF | apply zE | apply zG)); exact Kd.R_mono HO_337002.out (fun _ hk => hk.1)⟩, ⟨by (with_reducible repeat (first | apply zF | apply zE | apply zG)); exact Kd.R_mono HO_343002.out (fun _ hk => hk.1)⟩, ⟨bA_ BK313⟩, ⟨bA_ BK314⟩, ⟨bA_ BK336⟩, ⟨bA_ BK342⟩, ⟨bB_ HB⟩⟩
          ·replace c95 := Bool.eq_false_iff.mpr c95
           subst c95
           have H1 : (laws_FnExactZigzag.j1 kj26 a2 a3 t327 t330 t343 true a0_0 a0_1 l0_2 a1_0 a1_1 l1_2) = some r := by rw [if_neg (show ¬ (false = true) by decide)] at H; exact H
           clear H
           have H := H1
           clear H1
           have H' := zA H
           clear H
           obtain ⟨Ao99, co99, eo99⟩ := Kd.R_slice HO_14.out
           subst eo99
           obtain ⟨Ao100, co100, eo100⟩ := Kd.R_slice HO_10.out
           subst eo100
           go_wp2_with (first | (go_at_call 29; (with_reducible refine (laws_eqMoveS.calls kj26 _ _ t343 _ _ t327 false _ ?side1 ?side2 ?side3 ?side4 A94.out).mono ?_); (case side1 => repeat (first | exact (zK HO_14.out).2.2 | (with_reducible refine zI ?_ _) | (with_reducible refine zH ?_ _) | (with_reducible refine zJ ?_))); (case side2 => exact (zK HO_14.out).2.1); (case side3 => repeat (first | exact (zK HO_10.out).2.2 | (with_reducible refine zI ?_ _) | (with_reducible refine zH ?_ _) | (with_reducible refine zJ ?_))); (case side4 => exact (zK HO_10.out).2.1); rintro e w101 ⟨rfl, hb⟩; have n0_ := zA (zL (bC_ HO_10) hb); have n1_ := zA (zL (bC_ HO_14) hb); have n2_ := zA (zL (bC_ HO_337002) hb); have n3_ := zA (zL (bC_ HO_343002) hb); have n4_ := zA (zL (bC_ HO352) hb); have n5_ := zA (zL (bC_ HO358) hb); have n6_ := zA (zU (g := gb313) (o := .cells #[.int .i64 a0_0, .int .i64 a0_1, .slice A0_2 l0_2.length c0_2] 24 (0, 0)) (bA_ BK313) hb); have n7_ := zA (zU (g := gb314) (o := .cells #[.int .i64 a1_0, .int .i64 a1_1, .slice A1_2 l1_2.length c1_2] 24 (0, 0)) (bA_ BK314) hb); have n8_ := zA (zU (g := gb336) (o := .cells #[.int .i64 t331, .int .i64 t332, .slice Ao47 t333.length co47] 26 (0, 0)) (bA_ BK336) hb); have n9_ := zA (zU (g := gb342) (o := .cells #[.int .i64 t337, .int .i64 t338, .slice Ao55 t339.length co55] 26 (0, 0)) (bA_ BK342) hb); have n10_ := zA (below_step (bB_ HB) hb); clear HO_10; clear HO_14; clear HO_337002; clear HO_343002; clear HO352; clear HO358; clear BK313; clear BK314; clear BK336; clear BK342; clear HB; have HO_10 := n0_; have HO_14 := n1_; have HO_337002 := n2_; have HO_343002 := n3_; have HO352 := n4_; have HO358 := n5_; have BK313 := n6_; have BK314 := n7_; have BK336 := n8_; have BK342 := n9_; have HB := n10_; clear n0_ n1_ n2_ n3_ n4_ n5_ n6_ n7_ n8_ n9_ n10_; (try clear hb); (try clear hb2); (try clear hk); (try clear hi)))
           go_meet
           case rel => exact ⟨_, (true), (by first | rfl | (simp; done) | (simp [*]; done)), H', ⟨by have := HJ26.out; first | omega | exact Nat.le_refl _⟩, ⟨bC_ HO_10⟩, ⟨bC_ HO_14⟩, ⟨by (with_reducible repeat (first | apply zF | apply zE | apply zG)); exact Kd.R_mono HO_337002.out (fun _ hk => hk.1)⟩, ⟨by (with_reducible repeat (first | apply zF | apply zE | apply zG)); exact Kd.R_mono HO_343002.out (fun _ hk => hk.1)⟩, ⟨bA_ BK313⟩, ⟨bA_ BK314⟩, ⟨bA_ BK336⟩, ⟨bA_ BK342⟩, ⟨bB_ HB⟩⟩
        case rest =>
         clear HC75
         try clear c1
         try clear c2
         try clear p2
         try clear c3
         try clear c4
         try clear c5
         try clear c6
         try clear c6b0
         try clear c7
         try clear c8
         try clear c9
         try clear c11
         try clear c13
         try clear c13b0
         try clear c14
         try clear c16
         try clear c27
         try clear c28
         try clear c29
         try clear c30
         try clear c44
         try clear c45
         try clear c51
         try clear c52
         try clear c53
         try clear c59
         try clear c66
         try clear c69
         try clear c72
         try clear c84
         try clear c85
         try clear c86
         try clear c89
         try clear c90
         try clear c93
         try clear c93b0
         try clear c95
         try clear hcz10_0
         try clear hcz10_1
         try clear hcz10_2
         try clear hcz17_0
         try clear hcz17_1
         try clear hcz17_2
         try clear hcz19_0
         try clear hcz19_1
         try clear hcz19_2
         try clear hcz31_0
         try clear hcz31_1
         try clear hcz31_2
         try clear hcz33_0
         try clear hcz33_1
         try clear hcz33_2
         try clear hcz41_0
         try clear hcz41_1
         try clear hcz41_2
         try clear hcz46_0
         try clear hcz46_1
         try clear hcz46_2
         try clear hcz48_0
         try clear hcz48_1
         try clear hcz48_2
         try clear hcz54_0
         try clear hcz54_1
         try clear hcz54_2
         try clear hcz56_0
         try clear hcz56_1
         try clear hcz56_2
         try clear hcz87_0
         try clear hcz87_1
         try clear hcz87_2
         try clear hcz91_0
         try clear hcz91_1
         try clear hcz91_2
         try clear hfz10_0
         try clear hfz10_1
         try clear hfz10_2
         try clear hfz17_0
         try clear hfz17_1
         try clear hfz17_2
         try clear hfz19_0
         try clear hfz19_1
         try clear hfz19_2
         try clear hfz31_0
         try clear hfz31_1
         try clear hfz31_2
         try clear hfz33_0
         try clear hfz33_1
         try clear hfz33_2
         try clear hfz41_0
         try clear hfz41_1
         try clear hfz41_2
         try clear hfz46_0
         try clear hfz46_1
         try clear hfz46_2
         try clear hfz48_0
         try clear hfz48_1
         try clear hfz48_2
         try clear hfz54_0
         try clear hfz54_1
         try clear hfz54_2
         try clear hfz56_0
         try clear hfz56_1
         try clear hfz56_2
         try clear hfz87_0
         try clear hfz87_1
         try clear hfz87_2
         try clear hfz91_0
         try clear hfz91_1
         try clear hfz91_2
         try clear p2
         obtain ⟨kq, x90_74, rfl, HA, HJ74, HO_10, HO_14, HO_337002, HO_343002, BK313, BK314, BK336, BK342, HB⟩ := hcut
         have hl337002_74 := (zK HO_337002.out).1
         rw [hl337002_74] at HO_337002
         (try simp only [hl337002_74])
         (try simp only [hl337002_74] at BK313)
         (try simp only [hl337002_74] at BK314)
         (try simp only [hl337002_74] at BK336)
         (try simp only [hl337002_74] at BK342)
         (try simp only [hl337002_74] at HO_10)
         (try simp only [hl337002_74] at HO_14)
         (try simp only [hl337002_74] at HO_343002)
         have hl343002_74 := (zK HO_343002.out).1
         rw [hl343002_74] at HO_343002
         (try simp only [hl343002_74])
         (try simp only [hl343002_74] at BK313)
         (try simp only [hl343002_74] at BK314)
         (try simp only [hl343002_74] at BK336)
         (try simp only [hl343002_74] at BK342)
         (try simp only [hl343002_74] at HO_10)
         (try simp only [hl343002_74] at HO_14)
         (try simp only [hl343002_74] at HO_337002)
         cases kq with
         | zero => exact absurd HA.out (by simp [laws_FnExactZigzag.j1])
         | succ kj74 =>
          have H := HA.out
          clear HA
          simp only [laws_FnExactZigzag.j1] at H
          by_cases c102 : x90_74 = true
          ·subst c102
           have H1 : (some false) = some r := by rw [if_pos rfl] at H; exact H
           clear H
           have H := H1
           clear H1
           obtain rfl := Option.some.inj H
           go_wp2
           go_ret
           exact ⟨by first | rfl | (simp [errW_none, errW_some] <;> rfl) | (simp [*, errW_none, errW_some] <;> rfl), bB_ HB⟩
          ·replace c102 := Bool.eq_false_iff.mpr c102
           subst c102
           have H1 : ((laws_markMoveS.f kj74 t343 1).bind fun bt365 => ((laws_heldMoveS.f kj74 bt365.2 1).bind fun t367 => (if t367 < 0 then (some false) else (if t367 = bt365.1 then ((laws_toField.f kj74 a0_0 a0_1 l0_2).bind fun bt368 => ((laws_toField.f kj74 a1_0 a1_1 l1_2).bind fun bt373 => ((impl_Zigzag.f kj74 bt368.1 bt368.2.1 bt368.2.2 bt373.1 bt373.2.1 bt373.2.2 a2 a3).bind fun bt378 => ((laws_eqMoveS.f kj74 bt378.1 t327).bind fun t382 => (if t382 = true then (laws_FnExactZigzag.j2 kj74 bt365.2 bt365.1 (bt378.2 != t330)) else (laws_FnExactZigzag.j2 kj74 bt365.2 bt365.1 true)))))) else (some false))))) = some r := by rw [if_neg (show ¬ (false = true) by decide)] at H; exact H
           clear H
           have H := H1
           clear H1
           replace H := Option.bind_eq_some_iff.mp H
           obtain ⟨⟨t365, t366⟩, A1030, H⟩ := H
           replace H : ((laws_heldMoveS.f kj74 t366 1).bind fun t367 => (if t367 < 0 then (some false) else (if t367 = t365 then ((laws_toField.f kj74 a0_0 a0_1 l0_2).bind fun bt368 => ((laws_toField.f kj74 a1_0 a1_1 l1_2).bind fun bt373 => ((impl_Zigzag.f kj74 bt368.1 bt368.2.1 bt368.2.2 bt373.1 bt373.2.1 bt373.2.2 a2 a3).bind fun bt378 => ((laws_eqMoveS.f kj74 bt378.1 t327).bind fun t382 => (if t382 = true then (laws_FnExactZigzag.j2 kj74 t366 t365 (bt378.2 != t330)) else (laws_FnExactZigzag.j2 kj74 t366 t365 true)))))) else (some false)))) = some r := H
           have A103 := zA A1030
           clear A1030
           replace H := Option.bind_eq_some_iff.mp H
           obtain ⟨t367, A1040, H⟩ := H
           replace H : (if t367 < 0 then (some false) else (if t367 = t365 then ((laws_toField.f kj74 a0_0 a0_1 l0_2).bind fun bt368 => ((laws_toField.f kj74 a1_0 a1_1 l1_2).bind fun bt373 => ((impl_Zigzag.f kj74 bt368.1 bt368.2.1 bt368.2.2 bt373.1 bt373.2.1 bt373.2.2 a2 a3).bind fun bt378 => ((laws_eqMoveS.f kj74 bt378.1 t327).bind fun t382 => (if t382 = true then (laws_FnExactZigzag.j2 kj74 t366 t365 (bt378.2 != t330)) else (laws_FnExactZigzag.j2 kj74 t366 t365 true)))))) else (some false))) = some r := H
           have A104 := zA A1040
           clear A1040
           by_cases c105 : t367 < 0
           ·rw [if_pos c105] at H
            have c105b0 : decide (t367 < 0) = true := decide_eq_true c105
            clear c105
            obtain rfl := Option.some.inj H
            obtain ⟨Ao106, co106, eo106⟩ := Kd.R_slice HO_14.out
            subst eo106
            go_wp2_with (first | ((with_reducible refine gate_callee (f := 30) rfl ?_); refine goesL_ (some 93) rfl rfl Try.func30 (by kernel_rfl) rfl #[.slice Ao106 t343.length co106, .int .i64 1] rfl (by (try simp only [List.map_toArray, List.map_cons, List.map_nil]); first | done | rfl | (simp only [List.length_drop, List.length_take]; rfl)) ?_; (with_reducible refine (laws_markMoveS.calls kj74 (fun k_ => some k_ = (.slice Ao106 t343.length co106 : Value).ownBlock) (.slice Ao106 t343.length co106) t343 1 t365 t366 w _ ?side1 ?side2 A103.out).mono ?_); (case side1 => repeat (first | (with_reducible first | exact HB.out | apply zR | apply zP | apply zQ | refine zS ?_ GE313.out | refine zS ?_ GE314.out | refine zS ?_ GE336.out | refine zS ?_ GE342.out) | exact HB.out)); (case side2 => exact Kd.R_tight rfl HO_14.out); rintro e w107 ⟨rfl, hy0, hb, hkp⟩; refine ⟨_, rfl, ?_⟩; have n0_ := zA (Kd.R_mono (ok' := fun k_ => some k_ ≠ (.slice Ao106 t343.length co106 : Value).ownBlock) (Kd.R_keptB (HO_10.out) hkp (fun k_ hk_ hs_ => (hk_) hs_)) (fun k_ hk_ => hk_.1)); have n1_ := zA (Kd.R_reok rfl hy0 (fun k_ e_ => HO_14.out.1 k_ e_)); have n2_ := zA (Kd.R_mono (ok' := fun k_ => some k_ ≠ (.slice Ao55 t363.length co55 : Value).ownBlock) (Kd.R_keptB ((Kd.R_apart' HO_337002.out (Kd.R_typed HO_14.out) (by decide))) hkp (fun k_ hk_ hs_ => (hk_.2) hs_)) (fun k_ hk_ => hk_.1.1)); have n3_ := zA (Kd.R_mono (ok' := fun k_ => some k_ ≠ (.slice Ao47 t361.length co47 : Value).ownBlock) (Kd.R_keptB ((Kd.R_apart' HO_343002.out (Kd.R_typed HO_14.out) (by decide))) hkp (fun k_ hk_ hs_ => (hk_.2) hs_)) (fun k_ hk_ => hk_.1.1)); have n4_ := zA (blk_kept (bA_ BK313) hkp (fun hs_ => (fun e_ => (Kd.R_ne HO_14.out BK313.out (by decide)) e_) hs_)); have n5_ := zA (blk_kept (bA_ BK314) hkp (fun hs_ => (fun e_ => (Kd.R_ne HO_14.out BK314.out (by decide)) e_) hs_)); have n6_ := zA (blk_kept (bA_ BK336) hkp (fun hs_ => (fun e_ => (Kd.R_ne HO_14.out BK336.out (by decide)) e_) hs_)); have n7_ := zA (blk_kept (bA_ BK342) hkp (fun hs_ => (fun e_ => (Kd.R_ne HO_14.out BK342.out (by decide)) e_) hs_)); have n8_ := zA (hb); clear HO_10; clear HO_14; clear HO_337002; clear HO_343002; clear BK313; clear BK314; clear BK336; clear BK342; clear HB; have HO_10 := n0_; have HO_14 := n1_; have HO_337002 := n2_; have HO_343002 := n3_; have BK313 := n4_; have BK314 := n5_; have BK336 := n6_; have BK342 := n7_; have HB := n8_; clear n0_ n1_ n2_ n3_ n4_ n5_ n6_ n7_ n8_; (try clear hb); (try clear hkp); (try clear hy0)) | ((with_reducible refine gate_callee (f := 31) rfl ?_); refine goesL_ (some 96) rfl rfl Try.func31 (by kernel_rfl) rfl #[.slice Ao106 t366.length co106, .int .i64 1] rfl (by (try simp only [List.map_toArray, List.map_cons, List.map_nil]); first | done | (rw [show t366.length = t343.length from (zK HO_14.out).1.symm] <;> rfl) | rfl | (simp only [List.length_drop, List.length_take]; rfl)) ?_; (with_reducible refine (laws_heldMoveS.calls kj74 _ _ t366 1 t367 _ ?side1 ?side2 A104.out).mono ?_); (case side1 => repeat (first | exact (zK HO_14.out).2.2 | (with_reducible refine zI ?_ _) | (with_reducible refine zH ?_ _) | (with_reducible refine zJ ?_))); (case side2 => rw [show t366.length = t343.length from (zK HO_14.out).1.symm]; exact (zK HO_14.out).2.1); rintro e w' ⟨rfl, ⟨nd, rfl⟩⟩; refine ⟨_, rfl, ?_⟩))
            go_ret
            exact ⟨by first | rfl | (simp [errW_none, errW_some] <;> rfl) | (simp [*, errW_none, errW_some] <;> rfl), bB_ HB⟩
           ·rw [if_neg c105] at H
            have c105b0 : decide (t367 < 0) = false := decide_eq_false c105
            clear c105
            by_cases c108 : t367 = t365
            ·rw [if_pos c108] at H
             have c108b0 : (t367 == t365) = true := beq_iff_eq.mpr c108
             have c108b1 : (t367 != t365) = false := bne_eq_false_iff_eq.mpr c108
             clear c108
             replace H := Option.bind_eq_some_iff.mp H
             obtain ⟨⟨t368, t369, t370⟩, A1090, H⟩ := H
             replace H : ((laws_toField.f kj74 a1_0 a1_1 l1_2).bind fun bt373 => ((impl_Zigzag.f kj74 t368 t369 t370 bt373.1 bt373.2.1 bt373.2.2 a2 a3).bind fun bt378 => ((laws_eqMoveS.f kj74 bt378.1 t327).bind fun t382 => (if t382 = true then (laws_FnExactZigzag.j2 kj74 t366 t365 (bt378.2 != t330)) else (laws_FnExactZigzag.j2 kj74 t366 t365 true))))) = some r := H
             have A109 := zA A1090
             clear A1090
             replace H := Option.bind_eq_some_iff.mp H
             obtain ⟨⟨t373, t374, t375⟩, A1100, H⟩ := H
             replace H : ((impl_Zigzag.f kj74 t368 t369 t370 t373 t374 t375 a2 a3).bind fun bt378 => ((laws_eqMoveS.f kj74 bt378.1 t327).bind fun t382 => (if t382 = true then (laws_FnExactZigzag.j2 kj74 t366 t365 (bt378.2 != t330)) else (laws_FnExactZigzag.j2 kj74 t366 t365 true)))) = some r := H
             have A110 := zA A1100
             clear A1100
             replace H := Option.bind_eq_some_iff.mp H
             obtain ⟨⟨t378, t381⟩, A1110, H⟩ := H
             replace H : ((laws_eqMoveS.f kj74 t378 t327).bind fun t382 => (if t382 = true then (laws_FnExactZigzag.j2 kj74 t366 t365 (t381 != t330)) else (laws_FnExactZigzag.j2 kj74 t366 t365 true))) = some r := H
             have A111 := zA A1110
             clear A1110
             have HC112 := zA H
             clear H
             obtain ⟨Ao113, co113, eo113⟩ := Kd.R_slice HO_14.out
             subst eo113
             try go_wp2_with (first | ((with_reducible refine gate_callee (f := 30) rfl ?_); refine goesL_ (some 93) rfl rfl Try.func30 (by kernel_rfl) rfl #[.slice Ao113 t343.length co113, .int .i64 1] rfl (by (try simp only [List.map_toArray, List.map_cons, List.map_nil]); first | done | rfl | (simp only [List.length_drop, List.length_take]; rfl)) ?_; (with_reducible refine (laws_markMoveS.calls kj74 (fun k_ => some k_ = (.slice Ao113 t343.length co113 : Value).ownBlock) (.slice Ao113 t343.length co113) t343 1 t365 t366 w _ ?side1 ?side2 A103.out).mono ?_); (case side1 => repeat (first | (with_reducible first | exact HB.out | apply zR | apply zP | apply zQ | refine zS ?_ GE313.out | refine zS ?_ GE314.out | refine zS ?_ GE336.out | refine zS ?_ GE342.out) | exact HB.out)); (case side2 => exact Kd.R_tight rfl HO_14.out); rintro e w114 ⟨rfl, hy0, hb, hkp⟩; refine ⟨_, rfl, ?_⟩; have n0_ := zA (Kd.R_mono (ok' := fun k_ => some k_ ≠ (.slice Ao113 t343.length co113 : Value).ownBlock) (Kd.R_keptB (HO_10.out) hkp (fun k_ hk_ hs_ => (hk_) hs_)) (fun k_ hk_ => hk_.1)); have n1_ := zA (Kd.R_reok rfl hy0 (fun k_ e_ => HO_14.out.1 k_ e_)); have n2_ := zA (Kd.R_mono (ok' := fun k_ => some k_ ≠ (.slice Ao55 t363.length co55 : Value).ownBlock) (Kd.R_keptB ((Kd.R_apart' HO_337002.out (Kd.R_typed HO_14.out) (by decide))) hkp (fun k_ hk_ hs_ => (hk_.2) hs_)) (fun k_ hk_ => hk_.1.1)); have n3_ := zA (Kd.R_mono (ok' := fun k_ => some k_ ≠ (.slice Ao47 t361.length co47 : Value).ownBlock) (Kd.R_keptB ((Kd.R_apart' HO_343002.out (Kd.R_typed HO_14.out) (by decide))) hkp (fun k_ hk_ hs_ => (hk_.2) hs_)) (fun k_ hk_ => hk_.1.1)); have n4_ := zA (blk_kept (bA_ BK313) hkp (fun hs_ => (fun e_ => (Kd.R_ne HO_14.out BK313.out (by decide)) e_) hs_)); have n5_ := zA (blk_kept (bA_ BK314) hkp (fun hs_ => (fun e_ => (Kd.R_ne HO_14.out BK314.out (by decide)) e_) hs_)); have n6_ := zA (blk_kept (bA_ BK336) hkp (fun hs_ => (fun e_ => (Kd.R_ne HO_14.out BK336.out (by decide)) e_) hs_)); have n7_ := zA (blk_kept (bA_ BK342) hkp (fun hs_ => (fun e_ => (Kd.R_ne HO_14.out BK342.out (by decide)) e_) hs_)); have n8_ := zA (hb); clear HO_10; clear HO_14; clear HO_337002; clear HO_343002; clear BK313; clear BK314; clear BK336; clear BK342; clear HB; have HO_10 := n0_; have HO_14 := n1_; have HO_337002 := n2_; have HO_343002 := n3_; have BK313 := n4_; have BK314 := n5_; have BK336 := n6_; have BK342 := n7_; have HB := n8_; clear n0_ n1_ n2_ n3_ n4_ n5_ n6_ n7_ n8_; (try clear hb); (try clear hkp); (try clear hy0)) | ((with_reducible refine gate_callee (f := 31) rfl ?_); refine goesL_ (some 96) rfl rfl Try.func31 (by kernel_rfl) rfl #[.slice Ao113 t366.length co113, .int .i64 1] rfl (by (try simp only [List.map_toArray, List.map_cons, List.map_nil]); first | done | (rw [show t366.length = t343.length from (zK HO_14.out).1.symm] <;> rfl) | rfl | (simp only [List.length_drop, List.length_take]; rfl)) ?_; (with_reducible refine (laws_heldMoveS.calls kj74 _ _ t366 1 t367 _ ?side1 ?side2 A104.out).mono ?_); (case side1 => repeat (first | exact (zK HO_14.out).2.2 | (with_reducible refine zI ?_ _) | (with_reducible refine zH ?_ _) | (with_reducible refine zJ ?_))); (case side2 => rw [show t366.length = t343.length from (zK HO_14.out).1.symm]; exact (zK HO_14.out).2.1); rintro e w' ⟨rfl, ⟨nd, rfl⟩⟩; refine ⟨_, rfl, ?_⟩))
             (try (rw [drewN_self w114]; generalize hq_ : World.drewN w114 _ = w114; have n0_ : Aside0 (Kd.R k61 61 w114 w.heap.size (fun k_ => some k_ ≠ (.slice Ao113 t343.length co113 : Value).ownBlock) v328 t327) := ⟨by rw [← hq_]; exact (bC_ HO_10)⟩; have n1_ : Aside0 (Kd.R k61 61 w114 w.heap.size (fun k_ => some k_ ≠ (v328 : Value).ownBlock) (.slice Ao113 t343.length co113) t366) := ⟨by rw [← hq_]; exact (bC_ HO_14)⟩; have n2_ : Aside0 (Kd.R (Kd.int .i64) 3 w114 w.heap.size (fun k_ => some k_ ≠ (.slice Ao55 t363.length co55 : Value).ownBlock) (.slice Ao47 t361.length co47) t361) := ⟨by rw [← hq_]; exact (bC_ HO_337002)⟩; have n3_ : Aside0 (Kd.R (Kd.int .i64) 3 w114 w.heap.size (fun k_ => some k_ ≠ (.slice Ao47 t361.length co47 : Value).ownBlock) (.slice Ao55 t363.length co55) t363) := ⟨by rw [← hq_]; exact (bC_ HO_343002)⟩; have n4_ : Aside0 (w114.heap[gb313]? = some (.cells #[.int .i64 a0_0, .int .i64 a0_1, .slice A0_2 l0_2.length c0_2] 24 (0, 0))) := ⟨by rw [← hq_]; exact (bA_ BK313)⟩; have n5_ : Aside0 (w114.heap[gb314]? = some (.cells #[.int .i64 a1_0, .int .i64 a1_1, .slice A1_2 l1_2.length c1_2] 24 (0, 0))) := ⟨by rw [← hq_]; exact (bA_ BK314)⟩; have n6_ : Aside0 (w114.heap[gb336]? = some (.cells #[.int .i64 t331, .int .i64 t332, .slice Ao47 t361.length co47] 26 (0, 0))) := ⟨by rw [← hq_]; exact (bA_ BK336)⟩; have n7_ : Aside0 (w114.heap[gb342]? = some (.cells #[.int .i64 t337, .int .i64 t338, .slice Ao55 t363.length co55] 26 (0, 0))) := ⟨by rw [← hq_]; exact (bA_ BK342)⟩; have n8_ : Aside0 (Below w.heap.size w w114) := ⟨by rw [← hq_]; exact (bB_ HB)⟩; clear HO_10 HO_14 HO_337002 HO_343002 BK313 BK314 BK336 BK342 HB hq_; have HO_10 := n0_; have HO_14 := n1_; have HO_337002 := n2_; have HO_343002 := n3_; have BK313 := n4_; have BK314 := n5_; have BK336 := n6_; have BK342 := n7_; have HB := n8_; clear n0_ n1_ n2_ n3_ n4_ n5_ n6_ n7_ n8_))
             have n0_ := zA (zG HO_10.out)
             have n1_ := zA (zG HO_14.out)
             have n2_ := zA (zG HO_337002.out)
             have n3_ := zA (zG HO_343002.out)
             have n4_ := zA (zN BK313.out)
             have n5_ := zA (zN BK314.out)
             have n6_ := zA (zN BK336.out)
             have n7_ := zA (zN BK342.out)
             have n8_ := zA (zQ HB.out)
             clear HO_10
             clear HO_14
             clear HO_337002
             clear HO_343002
             clear BK313
             clear BK314
             clear BK336
             clear BK342
             clear HB
             have HO_10 := n0_
             have HO_14 := n1_
             have HO_337002 := n2_
             have HO_343002 := n3_
             have BK313 := n4_
             have BK314 := n5_
             have BK336 := n6_
             have BK342 := n7_
             have HB := n8_
             clear n0_ n1_ n2_ n3_ n4_ n5_ n6_ n7_ n8_
             refine start_ (n := 12) (S := fun w' => w'.cell? ⟨gb313, 0, none⟩ = some (.int .i64 a0_0) ∧ w'.cell? ⟨gb313, 1, none⟩ = some (.int .i64 a0_1) ∧ w'.cell? ⟨gb313, 2, none⟩ = some (.slice A0_2 l0_2.length c0_2) ∧ w'.cell? ⟨gb314, 0, none⟩ = some (.int .i64 a1_0) ∧ w'.cell? ⟨gb314, 1, none⟩ = some (.int .i64 a1_1) ∧ w'.cell? ⟨gb314, 2, none⟩ = some (.slice A1_2 l1_2.length c1_2)) (ds := []) #[false, false, false, false, false, false, false, false, false, false, false, false] (by kernel_rfl) rfl rfl ⟨(blk_cell BK313.out 0).trans rfl, (blk_cell BK313.out 1).trans rfl, (blk_cell BK313.out 2).trans rfl, (blk_cell BK314.out 0).trans rfl, (blk_cell BK314.out 1).trans rfl, (blk_cell BK314.out 2).trans rfl⟩ (fun hHeld => ?_); refine with_tabW laws_FnExactZigzag.tab31 laws_FnExactZigzag.bits31 (fun HT_ HW_ => ?_)
             generalize w114.drew = w115 at HO_10 HO_14 HO_337002 HO_343002 BK313 BK314 BK336 BK342 HB hHeld ⊢
             refine pure_ (i := 4) (N := some 107) (v := ?_) (a' := ?_) #[false, false, false, false, true, false, false, false, false, false, false, false] rfl rfl (any_of HT_.out (by kernel_rfl)) (fun _ _ _ h => h) (Or.inl ⟨by rfl, ?_⟩) ?_ ?_
             rotate_left
             ·intro w'
              go_simp
              with_reducible rfl
             rotate_left
             ·simp only [Act.put, zB, zC, zD, i64_w, i32_w]
              rfl
             refine pure_ (i := 5) (N := some 108) (v := ?_) (a' := ?_) #[false, false, false, false, true, true, false, false, false, false, false, false] rfl rfl (any_of HT_.out (by kernel_rfl)) (fun _ _ _ h => h) (Or.inl ⟨by rfl, ?_⟩) ?_ ?_
             rotate_left
             ·intro w'
              go_simp
              with_reducible rfl
             rotate_left
             ·simp only [Act.put, zB, zC, zD, i64_w, i32_w]
              rfl
             refine take_ (i := 0) (N := some 103) (v := ?_) (a' := ?_) #[true, false, false, false, true, true, false, false, false, false, false, false] rfl rfl (take_ofW HT_.out HW_.out (by kernel_rfl)) (fun _ _ _ h => h) (Or.inl ⟨by rfl, ?_⟩) hHeld ?_ ?_
             rotate_left
             ·rintro w' ⟨s0, s1, s2, s3, s4, s5⟩
              go_simp
              with_reducible rfl
             rotate_left
             ·simp only [Act.put, zB, zC, zD, i64_w, i32_w]
              rfl
             refine take_ (i := 2) (N := some 105) (v := ?_) (a' := ?_) #[true, false, true, false, true, true, false, false, false, false, false, false] rfl rfl (take_ofW HT_.out HW_.out (by kernel_rfl)) (fun _ _ _ h => h) (Or.inl ⟨by rfl, ?_⟩) hHeld ?_ ?_
             rotate_left
             ·rintro w' ⟨s0, s1, s2, s3, s4, s5⟩
              go_simp
              with_reducible rfl
             rotate_left
             ·simp only [Act.put, zB, zC, zD, i64_w, i32_w]
              rfl
             refine one_ (i := 1) (N := some 104) #[true, true, true, false, true, true, false, false, false, false, false, false] rfl rfl (one_of HT_.out (by kernel_rfl)) (by decide) (fun K hK => ?_)
             refine goes_ Try.func11 (by kernel_rfl) rfl #[.agg #[.int .i64 a0_0, .int .i64 a0_1, .slice A0_2 l0_2.length c0_2]] (by rfl) rfl rfl (by (try simp only [List.map_toArray, List.map_cons, List.map_nil]); first | done | rfl | (simp only [List.length_drop, List.length_take]; rfl)) ?_
             with_reducible refine (laws_toField.calls kj74 a0_0 a0_1 _ _ l0_2 t368 t369 t370 _ ?side1 ?side2 A109.out).mono ?_
             (case side1 => repeat (first | exact (Kd.C_below HR0_2.out HB.out) | (with_reducible refine zI ?_ _) | (with_reducible refine zH ?_ _) | (with_reducible refine zJ ?_)))
             (case side2 => exact HC0_2.out)
             rintro e w116 ⟨v371, rfl, ho0, hb⟩
             refine ⟨_, rfl, ?_⟩
             have n0_ := zA (zL (bC_ HO_10) hb)
             have n1_ := zA (zL (bC_ HO_14) hb)
             have n2_ := zA (Kd.R_elder' (bC_ HO_337002) (Kd.R_base ho0) hb)
             have n3_ := zA (Kd.R_elder' (bC_ HO_343002) (Kd.R_base ho0) hb)
             have n4_ := zA (Kd.R_lower (Kd.R_new' (Kd.R_new' ho0 (Kd.R_lt (bC_ HO_337002))) (Kd.R_lt (bC_ HO_343002))) (zT (bB_ HB)))
             have n5_ := zA (zU (g := gb313) (o := .cells #[.int .i64 a0_0, .int .i64 a0_1, .slice A0_2 l0_2.length c0_2] 24 (0, 0)) (bA_ BK313) hb)
             have n6_ := zA (zU (g := gb314) (o := .cells #[.int .i64 a1_0, .int .i64 a1_1, .slice A1_2 l1_2.length c1_2] 24 (0, 0)) (bA_ BK314) hb)
             have n7_ := zA (zU (g := gb336) (o := .cells #[.int .i64 t331, .int .i64 t332, .slice Ao47 t361.length co47] 26 (0, 0)) (bA_ BK336) hb)
             have n8_ := zA (zU (g := gb342) (o := .cells #[.int .i64 t337, .int .i64 t338, .slice Ao55 t363.length co55] 26 (0, 0)) (bA_ BK342) hb)
             have n9_ := zA (below_step (bB_ HB) hb)
             clear HO_10
             clear HO_14
             clear HO_337002
             clear HO_343002
             clear BK313
             clear BK314
             clear BK336
             clear BK342
             clear HB
             have HO_10 := n0_
             have HO_14 := n1_
             have HO_337002 := n2_
             have HO_343002 := n3_
             have HO372 := n4_
             have BK313 := n5_
             have BK314 := n6_
             have BK336 := n7_
             have BK342 := n8_
             have HB := n9_
             clear n0_ n1_ n2_ n3_ n4_ n5_ n6_ n7_ n8_ n9_
             (try clear hb)
             (try clear hb2)
             (try clear hk)
             (try clear hi)
             (try clear ho0)
             refine hK.out _ _ ⟨(blk_cell BK313.out 0).trans rfl, (blk_cell BK313.out 1).trans rfl, (blk_cell BK313.out 2).trans rfl, (blk_cell BK314.out 0).trans rfl, (blk_cell BK314.out 1).trans rfl, (blk_cell BK314.out 2).trans rfl⟩ (fun hHeld => ?_)
             clear hK K
             refine norm_ (a' := ?_) ?_ ?_
             rotate_left
             ·show Act.put _ (some 104) _ = _
              simp only [Act.put, zB, zC, zD, i64_w, i32_w]
              rfl
             refine one_ (i := 3) (N := some 106) #[true, true, true, true, true, true, false, false, false, false, false, false] rfl rfl (one_of HT_.out (by kernel_rfl)) (by decide) (fun K hK => ?_)
             refine goes_ Try.func11 (by kernel_rfl) rfl #[.agg #[.int .i64 a1_0, .int .i64 a1_1, .slice A1_2 l1_2.length c1_2]] (by rfl) rfl rfl (by (try simp only [List.map_toArray, List.map_cons, List.map_nil]); first | done | rfl | (simp only [List.length_drop, List.length_take]; rfl)) ?_
             with_reducible refine (laws_toField.calls kj74 a1_0 a1_1 _ _ l1_2 t373 t374 t375 _ ?side1 ?side2 A110.out).mono ?_
             (case side1 => repeat (first | exact (Kd.C_below HR1_2.out HB.out) | (with_reducible refine zI ?_ _) | (with_reducible refine zH ?_ _) | (with_reducible refine zJ ?_)))
             (case side2 => exact HC1_2.out)
             rintro e w117 ⟨v376, rfl, ho0, hb⟩
             refine ⟨_, rfl, ?_⟩
             have n0_ := zA (zL (bC_ HO_10) hb)
             have n1_ := zA (zL (bC_ HO_14) hb)
             have n2_ := zA (Kd.R_elder' (bC_ HO_337002) (Kd.R_base ho0) hb)
             have n3_ := zA (Kd.R_elder' (bC_ HO_343002) (Kd.R_base ho0) hb)
             have n4_ := zA (Kd.R_elder' (bC_ HO372) (Kd.R_base ho0) hb)
             have n5_ := zA (Kd.R_lower (Kd.R_new' (Kd.R_new' (Kd.R_new' ho0 (Kd.R_lt (bC_ HO_337002))) (Kd.R_lt (bC_ HO_343002))) (Kd.R_lt (bC_ HO372))) (zT (bB_ HB)))
             have n6_ := zA (zU (g := gb313) (o := .cells #[.int .i64 a0_0, .int .i64 a0_1, .slice A0_2 l0_2.length c0_2] 24 (0, 0)) (bA_ BK313) hb)
             have n7_ := zA (zU (g := gb314) (o := .cells #[.int .i64 a1_0, .int .i64 a1_1, .slice A1_2 l1_2.length c1_2] 24 (0, 0)) (bA_ BK314) hb)
             have n8_ := zA (zU (g := gb336) (o := .cells #[.int .i64 t331, .int .i64 t332, .slice Ao47 t361.length co47] 26 (0, 0)) (bA_ BK336) hb)
             have n9_ := zA (zU (g := gb342) (o := .cells #[.int .i64 t337, .int .i64 t338, .slice Ao55 t363.length co55] 26 (0, 0)) (bA_ BK342) hb)
             have n10_ := zA (below_step (bB_ HB) hb)
             clear HO_10
             clear HO_14
             clear HO_337002
             clear HO_343002
             clear HO372
             clear BK313
             clear BK314
             clear BK336
             clear BK342
             clear HB
             have HO_10 := n0_
             have HO_14 := n1_
             have HO_337002 := n2_
             have HO_343002 := n3_
             have HO372 := n4_
             have HO377 := n5_
             have BK313 := n6_
             have BK314 := n7_
             have BK336 := n8_
             have BK342 := n9_
             have HB := n10_
             clear n0_ n1_ n2_ n3_ n4_ n5_ n6_ n7_ n8_ n9_ n10_
             (try clear hb)
             (try clear hb2)
             (try clear hk)
             (try clear hi)
             (try clear ho0)
             obtain ⟨Ao118, co118, eo118⟩ := Kd.R_slice HO372.out
             (first | subst eo118 | (injection eo118 with f1_ f2_ f3_; have f4_ := f1_.symm; have f5_ := f3_.symm; clear f1_ f2_ f3_; subst f4_; subst f5_))
             obtain ⟨Ao119, co119, eo119⟩ := Kd.R_slice HO377.out
             (first | subst eo119 | (injection eo119 with f1_ f2_ f3_; have f4_ := f1_.symm; have f5_ := f3_.symm; clear f1_ f2_ f3_; subst f4_; subst f5_))
             refine hK.out _ _ ⟨(blk_cell BK313.out 0).trans rfl, (blk_cell BK313.out 1).trans rfl, (blk_cell BK313.out 2).trans rfl, (blk_cell BK314.out 0).trans rfl, (blk_cell BK314.out 1).trans rfl, (blk_cell BK314.out 2).trans rfl⟩ (fun hHeld => ?_)
             clear hK K
             refine norm_ (a' := ?_) ?_ ?_
             rotate_left
             ·show Act.put _ (some 106) _ = _
              simp only [Act.put, zB, zC, zD, i64_w, i32_w]
              rfl
             refine one_ (i := 6) (N := some 109) #[true, true, true, true, true, true, true, false, false, false, false, false] rfl rfl (one_of HT_.out (by kernel_rfl)) (by decide) (fun K hK => ?_)
             refine goes_ Try.func28 (by kernel_rfl) rfl #[.agg #[.int .i64 t368, .int .i64 t369, .slice Ao118 t370.length co118], .agg #[.int .i64 t373, .int .i64 t374, .slice Ao119 t375.length co119], .int .i64 a2, .int .i64 a3] (by rfl) rfl rfl (by (try simp only [List.map_toArray, List.map_cons, List.map_nil]); first | done | rfl | (simp only [List.length_drop, List.length_take]; rfl)) ?_
             with_reducible refine (impl_Zigzag.calls kj74 t368 t369 _ _ t370 t373 t374 _ _ t375 a2 a3 t378 t381 _ ?side1 ?side2 ?side3 ?side4 A111.out).mono ?_
             (case side1 => repeat (first | exact (zK HO372.out).2.2 | (with_reducible refine zI ?_ _) | (with_reducible refine zH ?_ _) | (with_reducible refine zJ ?_)))
             (case side2 => exact (zK HO372.out).2.1)
             (case side3 => repeat (first | exact (zK HO377.out).2.2 | (with_reducible refine zI ?_ _) | (with_reducible refine zH ?_ _) | (with_reducible refine zJ ?_)))
             (case side4 => exact (zK HO377.out).2.1)
             rintro e w120 ⟨v379, rfl, ho0, hb⟩
             refine ⟨_, rfl, ?_⟩
             have n0_ := zA (Kd.R_elder' (bC_ HO_10) (Kd.R_base ho0) hb)
             have n1_ := zA (Kd.R_elder' (bC_ HO_14) (Kd.R_base ho0) hb)
             have n2_ := zA (zL (bC_ HO_337002) hb)
             have n3_ := zA (zL (bC_ HO_343002) hb)
             have n4_ := zA (zL (bC_ HO372) hb)
             have n5_ := zA (zL (bC_ HO377) hb)
             have n6_ := zA (Kd.R_lower (Kd.R_new' (Kd.R_new' ho0 (Kd.R_lt (bC_ HO_10))) (Kd.R_lt (bC_ HO_14))) (zT (bB_ HB)))
             have n7_ := zA (zU (g := gb313) (o := .cells #[.int .i64 a0_0, .int .i64 a0_1, .slice A0_2 l0_2.length c0_2] 24 (0, 0)) (bA_ BK313) hb)
             have n8_ := zA (zU (g := gb314) (o := .cells #[.int .i64 a1_0, .int .i64 a1_1, .slice A1_2 l1_2.length c1_2] 24 (0, 0)) (bA_ BK314) hb)
             have n9_ := zA (zU (g := gb336) (o := .cells #[.int .i64 t331, .int .i64 t332, .slice Ao47 t361.length co47] 26 (0, 0)) (bA_ BK336) hb)
             have n10_ := zA (zU (g := gb342) (o := .cells #[.int .i64 t337, .int .i64 t338, .slice Ao55 t363.length co55] 26 (0, 0)) (bA_ BK342) hb)
             have n11_ := zA (below_step (bB_ HB) hb)
             clear HO_10
             clear HO_14
             clear HO_337002
             clear HO_343002
             clear HO372
             clear HO377
             clear BK313
             clear BK314
             clear BK336
             clear BK342
             clear HB
             have HO_10 := n0_
             have HO_14 := n1_
             have HO_337002 := n2_
             have HO_343002 := n3_
             have HO372 := n4_
             have HO377 := n5_
             have HO380 := n6_
             have BK313 := n7_
             have BK314 := n8_
             have BK336 := n9_
             have BK342 := n10_
             have HB := n11_
             clear n0_ n1_ n2_ n3_ n4_ n5_ n6_ n7_ n8_ n9_ n10_ n11_
             (try clear hb)
             (try clear hb2)
             (try clear hk)
             (try clear hi)
             (try clear ho0)
             refine hK.out _ _ ⟨(blk_cell BK313.out 0).trans rfl, (blk_cell BK313.out 1).trans rfl, (blk_cell BK313.out 2).trans rfl, (blk_cell BK314.out 0).trans rfl, (blk_cell BK314.out 1).trans rfl, (blk_cell BK314.out 2).trans rfl⟩ (fun hHeld => ?_)
             clear hK K
             refine norm_ (a' := ?_) ?_ ?_
             rotate_left
             ·show Act.put _ (some 109) _ = _
              simp only [Act.put, zB, zC, zD, i64_w, i32_w]
              rfl
             refine pure_ (i := 7) (N := some 102) (v := ?_) (a' := ?_) #[true, true, true, true, true, true, true, true, false, false, false, false] rfl rfl (any_of HT_.out (by kernel_rfl)) (fun _ _ _ h => h) (Or.inl ⟨by rfl, ?_⟩) ?_ ?_
             rotate_left
             ·intro w'
              go_simp
              with_reducible rfl
             rotate_left
             ·simp only [Act.put, zB, zC, zD, i64_w, i32_w]
              rfl
             refine pure_ (i := 8) (N := some 110) (v := ?_) (a' := ?_) #[true, true, true, true, true, true, true, true, true, false, false, false] rfl rfl (any_of HT_.out (by kernel_rfl)) (fun _ _ _ h => h) (Or.inl ⟨by rfl, ?_⟩) ?_ ?_
             rotate_left
             ·intro w'
              go_simp
              with_reducible rfl
             rotate_left
             ·simp only [Act.put, zB, zC, zD, i64_w, i32_w]
              rfl
             refine pure_ (i := 9) (N := some 111) (v := ?_) (a' := ?_) #[true, true, true, true, true, true, true, true, true, true, false, false] rfl rfl (any_of HT_.out (by kernel_rfl)) (fun _ _ _ h => h) (Or.inl ⟨by rfl, ?_⟩) ?_ ?_
             rotate_left
             ·intro w'
              go_simp
              with_reducible rfl
             rotate_left
             ·simp only [Act.put, zB, zC, zD, i64_w, i32_w]
              rfl
             refine pure_ (i := 10) (N := some 19) (v := ?_) (a' := ?_) #[true, true, true, true, true, true, true, true, true, true, true, false] rfl rfl (any_of HT_.out (by kernel_rfl)) (fun _ _ _ h => h) (Or.inl ⟨by rfl, ?_⟩) ?_ ?_
             rotate_left
             ·intro w'
              go_simp
              with_reducible rfl
             rotate_left
             ·simp only [Act.put, zB, zC, zD, i64_w, i32_w]
              rfl
             refine pure_ (i := 11) (N := some 20) (v := ?_) (a' := ?_) #[true, true, true, true, true, true, true, true, true, true, true, true] rfl rfl (any_of HT_.out (by kernel_rfl)) (fun _ _ _ h => h) (Or.inl ⟨by rfl, ?_⟩) ?_ ?_
             rotate_left
             ·intro w'
              go_simp
              with_reducible rfl
             rotate_left
             ·simp only [Act.put, zB, zC, zD, i64_w, i32_w]
              rfl
             refine done_ (done_of HT_.out (by kernel_rfl)) ?_
             go_upto_region 32 with (fail)
             go_cut [120] (fun v120 wc => ∃ (kq : Nat) (x120_111 : Bool), v120 = .bool x120_111 ∧ Aside0 (laws_FnExactZigzag.j2 kq t366 t365 x120_111 = some r) ∧ Aside0 (kq ≤ kj74) ∧ Aside0 (Kd.R k61 61 wc w.heap.size (fun _ => True) (.slice Ao113 t343.length co113) t366) ∧ Aside0 (Kd.R (Kd.int .i64) 3 wc w.heap.size (fun k_ => some k_ ≠ ((.slice Ao55 t363.length co55) : Value).ownBlock) (.slice Ao47 t361.length co47) t361) ∧ Aside0 (Kd.R (Kd.int .i64) 3 wc w.heap.size (fun k_ => some k_ ≠ ((.slice Ao47 t361.length co47) : Value).ownBlock) (.slice Ao55 t363.length co55) t363) ∧ Aside0 (wc.heap[gb313]? = some (.cells #[.int .i64 a0_0, .int .i64 a0_1, (.slice A0_2 l0_2.length c0_2)] 24 (0, 0))) ∧ Aside0 (wc.heap[gb314]? = some (.cells #[.int .i64 a1_0, .int .i64 a1_1, (.slice A1_2 l1_2.length c1_2)] 24 (0, 0))) ∧ Aside0 (wc.heap[gb336]? = some (.cells #[.int .i64 t331, .int .i64 t332, (.slice Ao47 t361.length co47)] 26 (0, 0))) ∧ Aside0 (wc.heap[gb342]? = some (.cells #[.int .i64 t337, .int .i64 t338, (.slice Ao55 t363.length co55)] 26 (0, 0))) ∧ Aside0 (Below w.heap.size w wc))
             case first =>
              have H := HC112.out
              clear HC112
              replace H := Option.bind_eq_some_iff.mp H
              obtain ⟨t382, A1210, H⟩ := H
              replace H : (if t382 = true then (laws_FnExactZigzag.j2 kj74 t366 t365 (t381 != t330)) else (laws_FnExactZigzag.j2 kj74 t366 t365 true)) = some r := H
              have A121 := zA A1210
              clear A1210
              by_cases c122 : t382 = true
              ·subst c122
               have H1 : (laws_FnExactZigzag.j2 kj74 t366 t365 (t381 != t330)) = some r := by rw [if_pos rfl] at H; exact H
               clear H
               have H := H1
               clear H1
               have H' := zA H
               clear H
               obtain ⟨Ao123, co123, eo123⟩ := Kd.R_slice HO380.out
               subst eo123
               obtain ⟨Ao124, co124, eo124⟩ := Kd.R_slice HO_10.out
               subst eo124
               go_wp2_with (first | ((with_reducible refine gate_callee (f := 29) rfl ?_); refine goesL_ (some 114) rfl rfl Try.func29 (by kernel_rfl) rfl #[.slice Ao123 t378.length co123, .slice Ao124 t327.length co124] rfl (by (try simp only [List.map_toArray, List.map_cons, List.map_nil]); first | done | rfl | (simp only [List.length_drop, List.length_take]; rfl)) ?_; (with_reducible refine (laws_eqMoveS.calls kj74 _ _ t378 _ _ t327 true _ ?side1 ?side2 ?side3 ?side4 A121.out).mono ?_); (case side1 => repeat (first | exact (zK HO380.out).2.2 | (with_reducible refine zI ?_ _) | (with_reducible refine zH ?_ _) | (with_reducible refine zJ ?_))); (case side2 => exact (zK HO380.out).2.1); (case side3 => repeat (first | exact (zK HO_10.out).2.2 | (with_reducible refine zI ?_ _) | (with_reducible refine zH ?_ _) | (with_reducible refine zJ ?_))); (case side4 => exact (zK HO_10.out).2.1); rintro e w125 ⟨rfl, hb⟩; refine ⟨_, rfl, ?_⟩; have n0_ := zA (zL (bC_ HO_10) hb); have n1_ := zA (zL (bC_ HO_14) hb); have n2_ := zA (zL (bC_ HO_337002) hb); have n3_ := zA (zL (bC_ HO_343002) hb); have n4_ := zA (zL (bC_ HO372) hb); have n5_ := zA (zL (bC_ HO377) hb); have n6_ := zA (zL (bC_ HO380) hb); have n7_ := zA (zU (g := gb313) (o := .cells #[.int .i64 a0_0, .int .i64 a0_1, .slice A0_2 l0_2.length c0_2] 24 (0, 0)) (bA_ BK313) hb); have n8_ := zA (zU (g := gb314) (o := .cells #[.int .i64 a1_0, .int .i64 a1_1, .slice A1_2 l1_2.length c1_2] 24 (0, 0)) (bA_ BK314) hb); have n9_ := zA (zU (g := gb336) (o := .cells #[.int .i64 t331, .int .i64 t332, .slice Ao47 t361.length co47] 26 (0, 0)) (bA_ BK336) hb); have n10_ := zA (zU (g := gb342) (o := .cells #[.int .i64 t337, .int .i64 t338, .slice Ao55 t363.length co55] 26 (0, 0)) (bA_ BK342) hb); have n11_ := zA (below_step (bB_ HB) hb); clear HO_10; clear HO_14; clear HO_337002; clear HO_343002; clear HO372; clear HO377; clear HO380; clear BK313; clear BK314; clear BK336; clear BK342; clear HB; have HO_10 := n0_; have HO_14 := n1_; have HO_337002 := n2_; have HO_343002 := n3_; have HO372 := n4_; have HO377 := n5_; have HO380 := n6_; have BK313 := n7_; have BK314 := n8_; have BK336 := n9_; have BK342 := n10_; have HB := n11_; clear n0_ n1_ n2_ n3_ n4_ n5_ n6_ n7_ n8_ n9_ n10_ n11_; (try clear hb); (try clear hb2); (try clear hk); (try clear hi)))
               go_meet
               case rel => exact ⟨_, ((t381 != t330)), (by first | rfl | (simp; done) | (simp [*]; done)), H', ⟨by have := HJ26.out; have := HJ74.out; first | omega | exact Nat.le_refl _⟩, ⟨by (try simp only [hl337002_74]); (try simp only [hl343002_74]); (with_reducible repeat (first | apply zF | apply zE | apply zG)); exact Kd.R_mono HO_14.out (fun _ hk => trivial)⟩, ⟨by (try simp only [hl337002_74]); (try simp only [hl343002_74]); (with_reducible repeat (first | apply zF | apply zE | apply zG)); exact Kd.R_mono HO_337002.out (fun _ hk => hk.1.1)⟩, ⟨by (try simp only [hl337002_74]); (try simp only [hl343002_74]); (with_reducible repeat (first | apply zF | apply zE | apply zG)); exact Kd.R_mono HO_343002.out (fun _ hk => hk.1.1)⟩, ⟨by (try simp only [hl337002_74]); (try simp only [hl343002_74]); (with_reducible repeat (first | refine zM ?_ _ | refine zN ?_ | refine zO ?_ _)); exact BK313.out⟩, ⟨by (try simp only [hl337002_74]); (try simp only [hl343002_74]); (with_reducible repeat (first | refine zM ?_ _ | refine zN ?_ | refine zO ?_ _)); exact BK314.out⟩, ⟨by (try simp only [hl337002_74]); (try simp only [hl343002_74]); (with_reducible repeat (first | refine zM ?_ _ | refine zN ?_ | refine zO ?_ _)); exact BK336.out⟩, ⟨by (try simp only [hl337002_74]); (try simp only [hl343002_74]); (with_reducible repeat (first | refine zM ?_ _ | refine zN ?_ | refine zO ?_ _)); exact BK342.out⟩, ⟨bB_ HB⟩⟩
              ·replace c122 := Bool.eq_false_iff.mpr c122
               subst c122
               have H1 : (laws_FnExactZigzag.j2 kj74 t366 t365 true) = some r := by rw [if_neg (show ¬ (false = true) by decide)] at H; exact H
               clear H
               have H := H1
               clear H1
               have H' := zA H
               clear H
               obtain ⟨Ao126, co126, eo126⟩ := Kd.R_slice HO380.out
               subst eo126
               obtain ⟨Ao127, co127, eo127⟩ := Kd.R_slice HO_10.out
               subst eo127
               go_wp2_with (first | ((with_reducible refine gate_callee (f := 29) rfl ?_); refine goesL_ (some 114) rfl rfl Try.func29 (by kernel_rfl) rfl #[.slice Ao126 t378.length co126, .slice Ao127 t327.length co127] rfl (by (try simp only [List.map_toArray, List.map_cons, List.map_nil]); first | done | rfl | (simp only [List.length_drop, List.length_take]; rfl)) ?_; (with_reducible refine (laws_eqMoveS.calls kj74 _ _ t378 _ _ t327 false _ ?side1 ?side2 ?side3 ?side4 A121.out).mono ?_); (case side1 => repeat (first | exact (zK HO380.out).2.2 | (with_reducible refine zI ?_ _) | (with_reducible refine zH ?_ _) | (with_reducible refine zJ ?_))); (case side2 => exact (zK HO380.out).2.1); (case side3 => repeat (first | exact (zK HO_10.out).2.2 | (with_reducible refine zI ?_ _) | (with_reducible refine zH ?_ _) | (with_reducible refine zJ ?_))); (case side4 => exact (zK HO_10.out).2.1); rintro e w128 ⟨rfl, hb⟩; refine ⟨_, rfl, ?_⟩; have n0_ := zA (zL (bC_ HO_10) hb); have n1_ := zA (zL (bC_ HO_14) hb); have n2_ := zA (zL (bC_ HO_337002) hb); have n3_ := zA (zL (bC_ HO_343002) hb); have n4_ := zA (zL (bC_ HO372) hb); have n5_ := zA (zL (bC_ HO377) hb); have n6_ := zA (zL (bC_ HO380) hb); have n7_ := zA (zU (g := gb313) (o := .cells #[.int .i64 a0_0, .int .i64 a0_1, .slice A0_2 l0_2.length c0_2] 24 (0, 0)) (bA_ BK313) hb); have n8_ := zA (zU (g := gb314) (o := .cells #[.int .i64 a1_0, .int .i64 a1_1, .slice A1_2 l1_2.length c1_2] 24 (0, 0)) (bA_ BK314) hb); have n9_ := zA (zU (g := gb336) (o := .cells #[.int .i64 t331, .int .i64 t332, .slice Ao47 t361.length co47] 26 (0, 0)) (bA_ BK336) hb); have n10_ := zA (zU (g := gb342) (o := .cells #[.int .i64 t337, .int .i64 t338, .slice Ao55 t363.length co55] 26 (0, 0)) (bA_ BK342) hb); have n11_ := zA (below_step (bB_ HB) hb); clear HO_10; clear HO_14; clear HO_337002; clear HO_343002; clear HO372; clear HO377; clear HO380; clear BK313; clear BK314; clear BK336; clear BK342; clear HB; have HO_10 := n0_; have HO_14 := n1_; have HO_337002 := n2_; have HO_343002 := n3_; have HO372 := n4_; have HO377 := n5_; have HO380 := n6_; have BK313 := n7_; have BK314 := n8_; have BK336 := n9_; have BK342 := n10_; have HB := n11_; clear n0_ n1_ n2_ n3_ n4_ n5_ n6_ n7_ n8_ n9_ n10_ n11_; (try clear hb); (try clear hb2); (try clear hk); (try clear hi)))
               go_meet
               case rel => exact ⟨_, (true), (by first | rfl | (simp; done) | (simp [*]; done)), H', ⟨by have := HJ26.out; have := HJ74.out; first | omega | exact Nat.le_refl _⟩, ⟨by (try simp only [hl337002_74]); (try simp only [hl343002_74]); (with_reducible repeat (first | apply zF | apply zE | apply zG)); exact Kd.R_mono HO_14.out (fun _ hk => trivial)⟩, ⟨by (try simp only [hl337002_74]); (try simp only [hl343002_74]); (with_reducible repeat (first | apply zF | apply zE | apply zG)); exact Kd.R_mono HO_337002.out (fun _ hk => hk.1.1)⟩, ⟨by (try simp only [hl337002_74]); (try simp only [hl343002_74]); (with_reducible repeat (first | apply zF | apply zE | apply zG)); exact Kd.R_mono HO_343002.out (fun _ hk => hk.1.1)⟩, ⟨by (try simp only [hl337002_74]); (try simp only [hl343002_74]); (with_reducible repeat (first | refine zM ?_ _ | refine zN ?_ | refine zO ?_ _)); exact BK313.out⟩, ⟨by (try simp only [hl337002_74]); (try simp only [hl343002_74]); (with_reducible repeat (first | refine zM ?_ _ | refine zN ?_ | refine zO ?_ _)); exact BK314.out⟩, ⟨by (try simp only [hl337002_74]); (try simp only [hl343002_74]); (with_reducible repeat (first | refine zM ?_ _ | refine zN ?_ | refine zO ?_ _)); exact BK336.out⟩, ⟨by (try simp only [hl337002_74]); (try simp only [hl343002_74]); (with_reducible repeat (first | refine zM ?_ _ | refine zN ?_ | refine zO ?_ _)); exact BK342.out⟩, ⟨bB_ HB⟩⟩
             case rest =>
              clear HC112
              try clear c1
              try clear c2
              try clear p2
              try clear c3
              try clear c4
              try clear c5
              try clear c6
              try clear c6b0
              try clear c7
              try clear c8
              try clear c9
              try clear c10
              try clear c11
              try clear c12
              try clear c13
              try clear c13b0
              try clear c14
              try clear c16
              try clear c27
              try clear c28
              try clear c29
              try clear c30
              try clear c31
              try clear c44
              try clear c45
              try clear c51
              try clear c52
              try clear c53
              try clear c59
              try clear c66
              try clear c69
              try clear c72
              try clear c84
              try clear c85
              try clear c86
              try clear c89
              try clear c90
              try clear c93
              try clear c93b0
              try clear c95
              try clear c102
              try clear c105
              try clear c105b0
              try clear c108
              try clear c108b0
              try clear c108b1
              try clear c122
              try clear hcz10_0
              try clear hcz10_1
              try clear hcz10_2
              try clear hcz17_0
              try clear hcz17_1
              try clear hcz17_2
              try clear hcz19_0
              try clear hcz19_1
              try clear hcz19_2
              try clear hcz31_0
              try clear hcz31_1
              try clear hcz31_2
              try clear hcz33_0
              try clear hcz33_1
              try clear hcz33_2
              try clear hcz41_0
              try clear hcz41_1
              try clear hcz41_2
              try clear hcz46_0
              try clear hcz46_1
              try clear hcz46_2
              try clear hcz48_0
              try clear hcz48_1
              try clear hcz48_2
              try clear hcz54_0
              try clear hcz54_1
              try clear hcz54_2
              try clear hcz56_0
              try clear hcz56_1
              try clear hcz56_2
              try clear hcz87_0
              try clear hcz87_1
              try clear hcz87_2
              try clear hcz91_0
              try clear hcz91_1
              try clear hcz91_2
              try clear hfz10_0
              try clear hfz10_1
              try clear hfz10_2
              try clear hfz17_0
              try clear hfz17_1
              try clear hfz17_2
              try clear hfz19_0
              try clear hfz19_1
              try clear hfz19_2
              try clear hfz31_0
              try clear hfz31_1
              try clear hfz31_2
              try clear hfz33_0
              try clear hfz33_1
              try clear hfz33_2
              try clear hfz41_0
              try clear hfz41_1
              try clear hfz41_2
              try clear hfz46_0
              try clear hfz46_1
              try clear hfz46_2
              try clear hfz48_0
              try clear hfz48_1
              try clear hfz48_2
              try clear hfz54_0
              try clear hfz54_1
              try clear hfz54_2
              try clear hfz56_0
              try clear hfz56_1
              try clear hfz56_2
              try clear hfz87_0
              try clear hfz87_1
              try clear hfz87_2
              try clear hfz91_0
              try clear hfz91_1
              try clear hfz91_2
              try clear p2
              obtain ⟨kq, x120_111, rfl, HA, HJ111, HO_14, HO_337002, HO_343002, BK313, BK314, BK336, BK342, HB⟩ := hcut
              have hl14_111 := (zK HO_14.out).1
              rw [hl14_111] at HO_14
              (try simp only [hl14_111])
              (try simp only [hl14_111] at BK313)
              (try simp only [hl14_111] at BK314)
              (try simp only [hl14_111] at BK336)
              (try simp only [hl14_111] at BK342)
              (try simp only [hl14_111] at HO_337002)
              (try simp only [hl14_111] at HO_343002)
              cases kq with
              | zero => exact absurd HA.out (by simp [laws_FnExactZigzag.j2])
              | succ kj111 =>
               have H := HA.out
               clear HA
               simp only [laws_FnExactZigzag.j2] at H
               by_cases c129 : x120_111 = true
               ·subst c129
                have H1 : (some false) = some r := by rw [if_pos rfl] at H; exact H
                clear H
                have H := H1
                clear H1
                obtain rfl := Option.some.inj H
                go_wp2
                go_ret
                exact ⟨by first | rfl | (simp [errW_none, errW_some] <;> rfl) | (simp [*, errW_none, errW_some] <;> rfl), bB_ HB⟩
               ·replace c129 := Bool.eq_false_iff.mpr c129
                subst c129
                have H1 : ((laws_heldMoveS.f kj111 t366 1).bind fun t383 => (if t383 < 0 then (some false) else (if t383 = t365 then (some true) else (some false)))) = some r := by rw [if_neg (show ¬ (false = true) by decide)] at H; exact H
                clear H
                have H := H1
                clear H1
                replace H := Option.bind_eq_some_iff.mp H
                obtain ⟨t383, A1300, H⟩ := H
                replace H : (if t383 < 0 then (some false) else (if t383 = t365 then (some true) else (some false))) = some r := H
                have A130 := zA A1300
                clear A1300
                by_cases c131 : t383 < 0
                ·rw [if_pos c131] at H
                 have c131b0 : decide (t383 < 0) = true := decide_eq_true c131
                 clear c131
                 obtain rfl := Option.some.inj H
                 go_wp2_with (first | ((with_reducible refine gate_callee (f := 31) rfl ?_); refine goesL_ (some 123) rfl rfl Try.func31 (by kernel_rfl) rfl #[.slice Ao113 t366.length co113, .int .i64 1] rfl (by (try simp only [List.map_toArray, List.map_cons, List.map_nil]); first | done | rfl | (simp only [List.length_drop, List.length_take]; rfl)) ?_; (with_reducible refine (laws_heldMoveS.calls kj111 _ _ t366 1 t383 _ ?side1 ?side2 A130.out).mono ?_); (case side1 => repeat (first | exact (zK HO_14.out).2.2 | (with_reducible refine zI ?_ _) | (with_reducible refine zH ?_ _) | (with_reducible refine zJ ?_))); (case side2 => exact (zK HO_14.out).2.1); rintro e w' ⟨rfl, ⟨nd, rfl⟩⟩; refine ⟨_, rfl, ?_⟩))
                 go_ret
                 exact ⟨by first | rfl | (simp [errW_none, errW_some] <;> rfl) | (simp [*, errW_none, errW_some] <;> rfl), bB_ HB⟩
                ·rw [if_neg c131] at H
                 have c131b0 : decide (t383 < 0) = false := decide_eq_false c131
                 clear c131
                 by_cases c132 : t383 = t365
                 ·rw [if_pos c132] at H
                  have c132b0 : (t383 == t365) = true := beq_iff_eq.mpr c132
                  have c132b1 : (t383 != t365) = false := bne_eq_false_iff_eq.mpr c132
                  clear c132
                  obtain rfl := Option.some.inj H
                  go_wp2_with (first | ((with_reducible refine gate_callee (f := 31) rfl ?_); refine goesL_ (some 123) rfl rfl Try.func31 (by kernel_rfl) rfl #[.slice Ao113 t366.length co113, .int .i64 1] rfl (by (try simp only [List.map_toArray, List.map_cons, List.map_nil]); first | done | rfl | (simp only [List.length_drop, List.length_take]; rfl)) ?_; (with_reducible refine (laws_heldMoveS.calls kj111 _ _ t366 1 t383 _ ?side1 ?side2 A130.out).mono ?_); (case side1 => repeat (first | exact (zK HO_14.out).2.2 | (with_reducible refine zI ?_ _) | (with_reducible refine zH ?_ _) | (with_reducible refine zJ ?_))); (case side2 => exact (zK HO_14.out).2.1); rintro e w' ⟨rfl, ⟨nd, rfl⟩⟩; refine ⟨_, rfl, ?_⟩))
                  go_ret
                  exact ⟨by first | rfl | (simp [errW_none, errW_some] <;> rfl) | (simp [*, errW_none, errW_some] <;> rfl), bB_ HB⟩
                 ·rw [if_neg c132] at H
                  have c132b0 : (t383 == t365) = false := beq_eq_false_iff_ne.mpr c132
                  have c132b1 : (t383 != t365) = true := bne_iff_ne.mpr c132
                  obtain rfl := Option.some.inj H
                  go_wp2_with (first | ((with_reducible refine gate_callee (f := 31) rfl ?_); refine goesL_ (some 123) rfl rfl Try.func31 (by kernel_rfl) rfl #[.slice Ao113 t366.length co113, .int .i64 1] rfl (by (try simp only [List.map_toArray, List.map_cons, List.map_nil]); first | done | rfl | (simp only [List.length_drop, List.length_take]; rfl)) ?_; (with_reducible refine (laws_heldMoveS.calls kj111 _ _ t366 1 t383 _ ?side1 ?side2 A130.out).mono ?_); (case side1 => repeat (first | exact (zK HO_14.out).2.2 | (with_reducible refine zI ?_ _) | (with_reducible refine zH ?_ _) | (with_reducible refine zJ ?_))); (case side2 => exact (zK HO_14.out).2.1); rintro e w' ⟨rfl, ⟨nd, rfl⟩⟩; refine ⟨_, rfl, ?_⟩))
                  go_ret
                  exact ⟨by first | rfl | (simp [errW_none, errW_some] <;> rfl) | (simp [*, errW_none, errW_some] <;> rfl), bB_ HB⟩
            ·rw [if_neg c108] at H
             have c108b0 : (t367 == t365) = false := beq_eq_false_iff_ne.mpr c108
             have c108b1 : (t367 != t365) = true := bne_iff_ne.mpr c108
             obtain rfl := Option.some.inj H
             obtain ⟨Ao133, co133, eo133⟩ := Kd.R_slice HO_14.out
             subst eo133
             go_wp2_with (first | ((with_reducible refine gate_callee (f := 30) rfl ?_); refine goesL_ (some 93) rfl rfl Try.func30 (by kernel_rfl) rfl #[.slice Ao133 t343.length co133, .int .i64 1] rfl (by (try simp only [List.map_toArray, List.map_cons, List.map_nil]); first | done | rfl | (simp only [List.length_drop, List.length_take]; rfl)) ?_; (with_reducible refine (laws_markMoveS.calls kj74 (fun k_ => some k_ = (.slice Ao133 t343.length co133 : Value).ownBlock) (.slice Ao133 t343.length co133) t343 1 t365 t366 w _ ?side1 ?side2 A103.out).mono ?_); (case side1 => repeat (first | (with_reducible first | exact HB.out | apply zR | apply zP | apply zQ | refine zS ?_ GE313.out | refine zS ?_ GE314.out | refine zS ?_ GE336.out | refine zS ?_ GE342.out) | exact HB.out)); (case side2 => exact Kd.R_tight rfl HO_14.out); rintro e w134 ⟨rfl, hy0, hb, hkp⟩; refine ⟨_, rfl, ?_⟩; have n0_ := zA (Kd.R_mono (ok' := fun k_ => some k_ ≠ (.slice Ao133 t343.length co133 : Value).ownBlock) (Kd.R_keptB (HO_10.out) hkp (fun k_ hk_ hs_ => (hk_) hs_)) (fun k_ hk_ => hk_.1)); have n1_ := zA (Kd.R_reok rfl hy0 (fun k_ e_ => HO_14.out.1 k_ e_)); have n2_ := zA (Kd.R_mono (ok' := fun k_ => some k_ ≠ (.slice Ao55 t363.length co55 : Value).ownBlock) (Kd.R_keptB ((Kd.R_apart' HO_337002.out (Kd.R_typed HO_14.out) (by decide))) hkp (fun k_ hk_ hs_ => (hk_.2) hs_)) (fun k_ hk_ => hk_.1.1)); have n3_ := zA (Kd.R_mono (ok' := fun k_ => some k_ ≠ (.slice Ao47 t361.length co47 : Value).ownBlock) (Kd.R_keptB ((Kd.R_apart' HO_343002.out (Kd.R_typed HO_14.out) (by decide))) hkp (fun k_ hk_ hs_ => (hk_.2) hs_)) (fun k_ hk_ => hk_.1.1)); have n4_ := zA (blk_kept (bA_ BK313) hkp (fun hs_ => (fun e_ => (Kd.R_ne HO_14.out BK313.out (by decide)) e_) hs_)); have n5_ := zA (blk_kept (bA_ BK314) hkp (fun hs_ => (fun e_ => (Kd.R_ne HO_14.out BK314.out (by decide)) e_) hs_)); have n6_ := zA (blk_kept (bA_ BK336) hkp (fun hs_ => (fun e_ => (Kd.R_ne HO_14.out BK336.out (by decide)) e_) hs_)); have n7_ := zA (blk_kept (bA_ BK342) hkp (fun hs_ => (fun e_ => (Kd.R_ne HO_14.out BK342.out (by decide)) e_) hs_)); have n8_ := zA (hb); clear HO_10; clear HO_14; clear HO_337002; clear HO_343002; clear BK313; clear BK314; clear BK336; clear BK342; clear HB; have HO_10 := n0_; have HO_14 := n1_; have HO_337002 := n2_; have HO_343002 := n3_; have BK313 := n4_; have BK314 := n5_; have BK336 := n6_; have BK342 := n7_; have HB := n8_; clear n0_ n1_ n2_ n3_ n4_ n5_ n6_ n7_ n8_; (try clear hb); (try clear hkp); (try clear hy0)) | ((with_reducible refine gate_callee (f := 31) rfl ?_); refine goesL_ (some 96) rfl rfl Try.func31 (by kernel_rfl) rfl #[.slice Ao133 t366.length co133, .int .i64 1] rfl (by (try simp only [List.map_toArray, List.map_cons, List.map_nil]); first | done | (rw [show t366.length = t343.length from (zK HO_14.out).1.symm] <;> rfl) | rfl | (simp only [List.length_drop, List.length_take]; rfl)) ?_; (with_reducible refine (laws_heldMoveS.calls kj74 _ _ t366 1 t367 _ ?side1 ?side2 A104.out).mono ?_); (case side1 => repeat (first | exact (zK HO_14.out).2.2 | (with_reducible refine zI ?_ _) | (with_reducible refine zH ?_ _) | (with_reducible refine zJ ?_))); (case side2 => rw [show t366.length = t343.length from (zK HO_14.out).1.symm]; exact (zK HO_14.out).2.1); rintro e w' ⟨rfl, ⟨nd, rfl⟩⟩; refine ⟨_, rfl, ?_⟩))
             go_ret
             exact ⟨by first | rfl | (simp [errW_none, errW_some] <;> rfl) | (simp [*, errW_none, errW_some] <;> rfl), bB_ HB⟩
       ·replace c72 := Bool.eq_false_iff.mpr c72
        subst c72
        have H1 : (some false) = some r := by rw [if_neg (show ¬ (false = true) by decide)] at H; exact H
        clear H
        have H := H1
        clear H1
        obtain rfl := Option.some.inj H
        try go_wp2
        have n0_ := zA (zG HO_10.out)
        have n1_ := zA (zG HO_14.out)
        have n2_ := zA (zG HO_337002.out)
        have n3_ := zA (zG HO_343002.out)
        have n4_ := zA (zN BK313.out)
        have n5_ := zA (zN BK314.out)
        have n6_ := zA (zN BK336.out)
        have n7_ := zA (zN BK342.out)
        have n8_ := zA (zQ HB.out)
        clear HO_10
        clear HO_14
        clear HO_337002
        clear HO_343002
        clear BK313
        clear BK314
        clear BK336
        clear BK342
        clear HB
        have HO_10 := n0_
        have HO_14 := n1_
        have HO_337002 := n2_
        have HO_343002 := n3_
        have BK313 := n4_
        have BK314 := n5_
        have BK336 := n6_
        have BK342 := n7_
        have HB := n8_
        clear n0_ n1_ n2_ n3_ n4_ n5_ n6_ n7_ n8_
        refine start_ (n := 5) (S := fun w' => w'.cell? ⟨gb336, 0, none⟩ = some (.int .i64 t331) ∧ w'.cell? ⟨gb336, 1, none⟩ = some (.int .i64 t332) ∧ w'.cell? ⟨gb336, 2, none⟩ = some (.slice Ao47 t333.length co47) ∧ w'.cell? ⟨gb313, 0, none⟩ = some (.int .i64 a0_0) ∧ w'.cell? ⟨gb313, 1, none⟩ = some (.int .i64 a0_1) ∧ w'.cell? ⟨gb313, 2, none⟩ = some (.slice A0_2 l0_2.length c0_2)) (ds := []) #[false, false, false, false, false] (by kernel_rfl) rfl rfl ⟨(blk_cell BK336.out 0).trans rfl, (blk_cell BK336.out 1).trans rfl, (blk_cell BK336.out 2).trans rfl, (blk_cell BK313.out 0).trans rfl, (blk_cell BK313.out 1).trans rfl, (blk_cell BK313.out 2).trans rfl⟩ (fun hHeld => ?_)
        generalize wc.drew = w135 at HO_10 HO_14 HO_337002 HO_343002 BK313 BK314 BK336 BK342 HB hHeld ⊢
        refine take_ (i := 0) (N := some 62) (v := ?_) (a' := ?_) #[true, false, false, false, false] rfl rfl (by kernel_rfl) (fun _ _ _ h => h) (Or.inl ⟨by rfl, ?_⟩) hHeld ?_ ?_
        rotate_left
        ·rintro w' ⟨s0, s1, s2, s3, s4, s5⟩
         go_simp
         with_reducible rfl
        rotate_left
        ·simp only [Act.put, zB, zC, zD, i64_w, i32_w]
         rfl
        refine take_ (i := 1) (N := some 63) (v := ?_) (a' := ?_) #[true, true, false, false, false] rfl rfl (by kernel_rfl) (fun _ _ _ h => h) (Or.inl ⟨by rfl, ?_⟩) hHeld ?_ ?_
        rotate_left
        ·rintro w' ⟨s0, s1, s2, s3, s4, s5⟩
         go_simp
         with_reducible rfl
        rotate_left
        ·simp only [Act.put, zB, zC, zD, i64_w, i32_w]
         rfl
        refine one_ (i := 2) (N := some 64) #[true, true, true, false, false] rfl rfl (by kernel_rfl) (by decide) (fun K hK => ?_)
        refine goes_ Try.func11 (by kernel_rfl) rfl #[.agg #[.int .i64 a0_0, .int .i64 a0_1, .slice A0_2 l0_2.length c0_2]] (by rfl) rfl rfl (by (try simp only [List.map_toArray, List.map_cons, List.map_nil]); first | done | rfl | (simp only [List.length_drop, List.length_take]; rfl)) ?_
        with_reducible refine (laws_toField.calls kj26 a0_0 a0_1 _ _ l0_2 t348 t349 t350 _ ?side1 ?side2 A67.out).mono ?_
        (case side1 => repeat (first | exact (Kd.C_below HR0_2.out HB.out) | (with_reducible refine zI ?_ _) | (with_reducible refine zH ?_ _) | (with_reducible refine zJ ?_)))
        (case side2 => exact HC0_2.out)
        rintro e w136 ⟨v351, rfl, ho0, hb⟩
        refine ⟨_, rfl, ?_⟩
        have n0_ := zA (zL (bC_ HO_10) hb)
        have n1_ := zA (zL (bC_ HO_14) hb)
        have n2_ := zA (Kd.R_elder' (bC_ HO_337002) (Kd.R_base ho0) hb)
        have n3_ := zA (Kd.R_elder' (bC_ HO_343002) (Kd.R_base ho0) hb)
        have n4_ := zA (Kd.R_lower (Kd.R_new' (Kd.R_new' ho0 (Kd.R_lt (bC_ HO_337002))) (Kd.R_lt (bC_ HO_343002))) (zT (bB_ HB)))
        have n5_ := zA (zU (g := gb313) (o := .cells #[.int .i64 a0_0, .int .i64 a0_1, .slice A0_2 l0_2.length c0_2] 24 (0, 0)) (bA_ BK313) hb)
        have n6_ := zA (zU (g := gb314) (o := .cells #[.int .i64 a1_0, .int .i64 a1_1, .slice A1_2 l1_2.length c1_2] 24 (0, 0)) (bA_ BK314) hb)
        have n7_ := zA (zU (g := gb336) (o := .cells #[.int .i64 t331, .int .i64 t332, .slice Ao47 t333.length co47] 26 (0, 0)) (bA_ BK336) hb)
        have n8_ := zA (zU (g := gb342) (o := .cells #[.int .i64 t337, .int .i64 t338, .slice Ao55 t339.length co55] 26 (0, 0)) (bA_ BK342) hb)
        have n9_ := zA (below_step (bB_ HB) hb)
        clear HO_10
        clear HO_14
        clear HO_337002
        clear HO_343002
        clear BK313
        clear BK314
        clear BK336
        clear BK342
        clear HB
        have HO_10 := n0_
        have HO_14 := n1_
        have HO_337002 := n2_
        have HO_343002 := n3_
        have HO352 := n4_
        have BK313 := n5_
        have BK314 := n6_
        have BK336 := n7_
        have BK342 := n8_
        have HB := n9_
        clear n0_ n1_ n2_ n3_ n4_ n5_ n6_ n7_ n8_ n9_
        (try clear hb)
        (try clear hb2)
        (try clear hk)
        (try clear hi)
        (try clear ho0)
        obtain ⟨Ao137, co137, eo137⟩ := Kd.R_slice HO352.out
        (first | subst eo137 | (injection eo137 with f1_ f2_ f3_; have f4_ := f1_.symm; have f5_ := f3_.symm; clear f1_ f2_ f3_; subst f4_; subst f5_))
        refine hK.out _ _ ⟨(blk_cell BK336.out 0).trans rfl, (blk_cell BK336.out 1).trans rfl, (blk_cell BK336.out 2).trans rfl, (blk_cell BK313.out 0).trans rfl, (blk_cell BK313.out 1).trans rfl, (blk_cell BK313.out 2).trans rfl⟩ (fun hHeld => ?_)
        clear hK K
        refine norm_ (a' := ?_) ?_ ?_
        rotate_left
        ·show Act.put _ (some 64) _ = _
         simp only [Act.put, zB, zC, zD, i64_w, i32_w]
         rfl
        refine one_ (i := 3) (N := some 65) #[true, true, true, true, false] rfl rfl (by kernel_rfl) (by decide) (fun K hK => ?_)
        refine goes_ Try.func13 (by kernel_rfl) rfl #[.agg #[.int .i64 t331, .int .i64 t332, .slice Ao47 t333.length co47], .agg #[.int .i64 t348, .int .i64 t349, .slice Ao137 t350.length co137]] (by rfl) rfl rfl (by (try simp only [List.map_toArray, List.map_cons, List.map_nil]); first | done | rfl | (simp only [List.length_drop, List.length_take]; rfl)) ?_
        with_reducible refine (laws_eqField.calls kj26 t331 t332 _ _ t333 t348 t349 _ _ t350 true _ ?side1 ?side2 ?side3 ?side4 A68.out).mono ?_
        (case side1 => repeat (first | exact (zK HO_337002.out).2.2 | (with_reducible refine zI ?_ _) | (with_reducible refine zH ?_ _) | (with_reducible refine zJ ?_)))
        (case side2 => exact (zK HO_337002.out).2.1)
        (case side3 => repeat (first | exact (zK HO352.out).2.2 | (with_reducible refine zI ?_ _) | (with_reducible refine zH ?_ _) | (with_reducible refine zJ ?_)))
        (case side4 => exact (zK HO352.out).2.1)
        rintro e w138 ⟨rfl, hb⟩
        refine ⟨_, rfl, ?_⟩
        have n0_ := zA (zL (bC_ HO_10) hb)
        have n1_ := zA (zL (bC_ HO_14) hb)
        have n2_ := zA (zL (bC_ HO_337002) hb)
        have n3_ := zA (zL (bC_ HO_343002) hb)
        have n4_ := zA (zL (bC_ HO352) hb)
        have n5_ := zA (zU (g := gb313) (o := .cells #[.int .i64 a0_0, .int .i64 a0_1, .slice A0_2 l0_2.length c0_2] 24 (0, 0)) (bA_ BK313) hb)
        have n6_ := zA (zU (g := gb314) (o := .cells #[.int .i64 a1_0, .int .i64 a1_1, .slice A1_2 l1_2.length c1_2] 24 (0, 0)) (bA_ BK314) hb)
        have n7_ := zA (zU (g := gb336) (o := .cells #[.int .i64 t331, .int .i64 t332, .slice Ao47 t333.length co47] 26 (0, 0)) (bA_ BK336) hb)
        have n8_ := zA (zU (g := gb342) (o := .cells #[.int .i64 t337, .int .i64 t338, .slice Ao55 t339.length co55] 26 (0, 0)) (bA_ BK342) hb)
        have n9_ := zA (below_step (bB_ HB) hb)
        clear HO_10
        clear HO_14
        clear HO_337002
        clear HO_343002
        clear HO352
        clear BK313
        clear BK314
        clear BK336
        clear BK342
        clear HB
        have HO_10 := n0_
        have HO_14 := n1_
        have HO_337002 := n2_
        have HO_343002 := n3_
        have HO352 := n4_
        have BK313 := n5_
        have BK314 := n6_
        have BK336 := n7_
        have BK342 := n8_
        have HB := n9_
        clear n0_ n1_ n2_ n3_ n4_ n5_ n6_ n7_ n8_ n9_
        (try clear hb)
        (try clear hb2)
        (try clear hk)
        (try clear hi)
        refine hK.out _ _ ⟨(blk_cell BK336.out 0).trans rfl, (blk_cell BK336.out 1).trans rfl, (blk_cell BK336.out 2).trans rfl, (blk_cell BK313.out 0).trans rfl, (blk_cell BK313.out 1).trans rfl, (blk_cell BK313.out 2).trans rfl⟩ (fun hHeld => ?_)
        clear hK K
        refine norm_ (a' := ?_) ?_ ?_
        rotate_left
        ·show Act.put _ (some 65) _ = _
         simp only [Act.put, zB, zC, zD, i64_w, i32_w]
         rfl
        refine pure_ (i := 4) (N := some 66) (v := ?_) (a' := ?_) #[true, true, true, true, true] rfl rfl (by kernel_rfl) (fun _ _ _ h => h) (Or.inl ⟨by rfl, ?_⟩) ?_ ?_
        rotate_left
        ·intro w'
         go_simp
         with_reducible rfl
        rotate_left
        ·simp only [Act.put, zB, zC, zD, i64_w, i32_w]
         rfl
        refine done_ (by kernel_rfl) ?_
        try go_wp2
        have n0_ := zA (zG HO_10.out)
        have n1_ := zA (zG HO_14.out)
        have n2_ := zA (zG HO_337002.out)
        have n3_ := zA (zG HO_343002.out)
        have n4_ := zA (zG HO352.out)
        have n5_ := zA (zN BK313.out)
        have n6_ := zA (zN BK314.out)
        have n7_ := zA (zN BK336.out)
        have n8_ := zA (zN BK342.out)
        have n9_ := zA (zQ HB.out)
        clear HO_10
        clear HO_14
        clear HO_337002
        clear HO_343002
        clear HO352
        clear BK313
        clear BK314
        clear BK336
        clear BK342
        clear HB
        have HO_10 := n0_
        have HO_14 := n1_
        have HO_337002 := n2_
        have HO_343002 := n3_
        have HO352 := n4_
        have BK313 := n5_
        have BK314 := n6_
        have BK336 := n7_
        have BK342 := n8_
        have HB := n9_
        clear n0_ n1_ n2_ n3_ n4_ n5_ n6_ n7_ n8_ n9_
        refine start_ (n := 5) (S := fun w' => w'.cell? ⟨gb342, 0, none⟩ = some (.int .i64 t337) ∧ w'.cell? ⟨gb342, 1, none⟩ = some (.int .i64 t338) ∧ w'.cell? ⟨gb342, 2, none⟩ = some (.slice Ao55 t339.length co55) ∧ w'.cell? ⟨gb314, 0, none⟩ = some (.int .i64 a1_0) ∧ w'.cell? ⟨gb314, 1, none⟩ = some (.int .i64 a1_1) ∧ w'.cell? ⟨gb314, 2, none⟩ = some (.slice A1_2 l1_2.length c1_2)) (ds := []) #[false, false, false, false, false] (by kernel_rfl) rfl rfl ⟨(blk_cell BK342.out 0).trans rfl, (blk_cell BK342.out 1).trans rfl, (blk_cell BK342.out 2).trans rfl, (blk_cell BK314.out 0).trans rfl, (blk_cell BK314.out 1).trans rfl, (blk_cell BK314.out 2).trans rfl⟩ (fun hHeld => ?_)
        generalize w138.drew = w139 at HO_10 HO_14 HO_337002 HO_343002 HO352 BK313 BK314 BK336 BK342 HB hHeld ⊢
        refine take_ (i := 0) (N := some 67) (v := ?_) (a' := ?_) #[true, false, false, false, false] rfl rfl (by kernel_rfl) (fun _ _ _ h => h) (Or.inl ⟨by rfl, ?_⟩) hHeld ?_ ?_
        rotate_left
        ·rintro w' ⟨s0, s1, s2, s3, s4, s5⟩
         go_simp
         with_reducible rfl
        rotate_left
        ·simp only [Act.put, zB, zC, zD, i64_w, i32_w]
         rfl
        refine take_ (i := 1) (N := some 68) (v := ?_) (a' := ?_) #[true, true, false, false, false] rfl rfl (by kernel_rfl) (fun _ _ _ h => h) (Or.inl ⟨by rfl, ?_⟩) hHeld ?_ ?_
        rotate_left
        ·rintro w' ⟨s0, s1, s2, s3, s4, s5⟩
         go_simp
         with_reducible rfl
        rotate_left
        ·simp only [Act.put, zB, zC, zD, i64_w, i32_w]
         rfl
        refine one_ (i := 2) (N := some 69) #[true, true, true, false, false] rfl rfl (by kernel_rfl) (by decide) (fun K hK => ?_)
        refine goes_ Try.func11 (by kernel_rfl) rfl #[.agg #[.int .i64 a1_0, .int .i64 a1_1, .slice A1_2 l1_2.length c1_2]] (by rfl) rfl rfl (by (try simp only [List.map_toArray, List.map_cons, List.map_nil]); first | done | rfl | (simp only [List.length_drop, List.length_take]; rfl)) ?_
        with_reducible refine (laws_toField.calls kj26 a1_0 a1_1 _ _ l1_2 t354 t355 t356 _ ?side1 ?side2 A70.out).mono ?_
        (case side1 => repeat (first | exact (Kd.C_below HR1_2.out HB.out) | (with_reducible refine zI ?_ _) | (with_reducible refine zH ?_ _) | (with_reducible refine zJ ?_)))
        (case side2 => exact HC1_2.out)
        rintro e w140 ⟨v357, rfl, ho0, hb⟩
        refine ⟨_, rfl, ?_⟩
        have n0_ := zA (zL (bC_ HO_10) hb)
        have n1_ := zA (zL (bC_ HO_14) hb)
        have n2_ := zA (Kd.R_elder' (bC_ HO_337002) (Kd.R_base ho0) hb)
        have n3_ := zA (Kd.R_elder' (bC_ HO_343002) (Kd.R_base ho0) hb)
        have n4_ := zA (Kd.R_elder' (bC_ HO352) (Kd.R_base ho0) hb)
        have n5_ := zA (Kd.R_lower (Kd.R_new' (Kd.R_new' (Kd.R_new' ho0 (Kd.R_lt (bC_ HO_337002))) (Kd.R_lt (bC_ HO_343002))) (Kd.R_lt (bC_ HO352))) (zT (bB_ HB)))
        have n6_ := zA (zU (g := gb313) (o := .cells #[.int .i64 a0_0, .int .i64 a0_1, .slice A0_2 l0_2.length c0_2] 24 (0, 0)) (bA_ BK313) hb)
        have n7_ := zA (zU (g := gb314) (o := .cells #[.int .i64 a1_0, .int .i64 a1_1, .slice A1_2 l1_2.length c1_2] 24 (0, 0)) (bA_ BK314) hb)
        have n8_ := zA (zU (g := gb336) (o := .cells #[.int .i64 t331, .int .i64 t332, .slice Ao47 t333.length co47] 26 (0, 0)) (bA_ BK336) hb)
        have n9_ := zA (zU (g := gb342) (o := .cells #[.int .i64 t337, .int .i64 t338, .slice Ao55 t339.length co55] 26 (0, 0)) (bA_ BK342) hb)
        have n10_ := zA (below_step (bB_ HB) hb)
        clear HO_10
        clear HO_14
        clear HO_337002
        clear HO_343002
        clear HO352
        clear BK313
        clear BK314
        clear BK336
        clear BK342
        clear HB
        have HO_10 := n0_
        have HO_14 := n1_
        have HO_337002 := n2_
        have HO_343002 := n3_
        have HO352 := n4_
        have HO358 := n5_
        have BK313 := n6_
        have BK314 := n7_
        have BK336 := n8_
        have BK342 := n9_
        have HB := n10_
        clear n0_ n1_ n2_ n3_ n4_ n5_ n6_ n7_ n8_ n9_ n10_
        (try clear hb)
        (try clear hb2)
        (try clear hk)
        (try clear hi)
        (try clear ho0)
        obtain ⟨Ao141, co141, eo141⟩ := Kd.R_slice HO358.out
        (first | subst eo141 | (injection eo141 with f1_ f2_ f3_; have f4_ := f1_.symm; have f5_ := f3_.symm; clear f1_ f2_ f3_; subst f4_; subst f5_))
        refine hK.out _ _ ⟨(blk_cell BK342.out 0).trans rfl, (blk_cell BK342.out 1).trans rfl, (blk_cell BK342.out 2).trans rfl, (blk_cell BK314.out 0).trans rfl, (blk_cell BK314.out 1).trans rfl, (blk_cell BK314.out 2).trans rfl⟩ (fun hHeld => ?_)
        clear hK K
        refine norm_ (a' := ?_) ?_ ?_
        rotate_left
        ·show Act.put _ (some 69) _ = _
         simp only [Act.put, zB, zC, zD, i64_w, i32_w]
         rfl
        refine one_ (i := 3) (N := some 70) #[true, true, true, true, false] rfl rfl (by kernel_rfl) (by decide) (fun K hK => ?_)
        refine goes_ Try.func13 (by kernel_rfl) rfl #[.agg #[.int .i64 t337, .int .i64 t338, .slice Ao55 t339.length co55], .agg #[.int .i64 t354, .int .i64 t355, .slice Ao141 t356.length co141]] (by rfl) rfl rfl (by (try simp only [List.map_toArray, List.map_cons, List.map_nil]); first | done | rfl | (simp only [List.length_drop, List.length_take]; rfl)) ?_
        with_reducible refine (laws_eqField.calls kj26 t337 t338 _ _ t339 t354 t355 _ _ t356 false _ ?side1 ?side2 ?side3 ?side4 A71.out).mono ?_
        (case side1 => repeat (first | exact (zK HO_343002.out).2.2 | (with_reducible refine zI ?_ _) | (with_reducible refine zH ?_ _) | (with_reducible refine zJ ?_)))
        (case side2 => exact (zK HO_343002.out).2.1)
        (case side3 => repeat (first | exact (zK HO358.out).2.2 | (with_reducible refine zI ?_ _) | (with_reducible refine zH ?_ _) | (with_reducible refine zJ ?_)))
        (case side4 => exact (zK HO358.out).2.1)
        rintro e w142 ⟨rfl, hb⟩
        refine ⟨_, rfl, ?_⟩
        have n0_ := zA (zL (bC_ HO_10) hb)
        have n1_ := zA (zL (bC_ HO_14) hb)
        have n2_ := zA (zL (bC_ HO_337002) hb)
        have n3_ := zA (zL (bC_ HO_343002) hb)
        have n4_ := zA (zL (bC_ HO352) hb)
        have n5_ := zA (zL (bC_ HO358) hb)
        have n6_ := zA (zU (g := gb313) (o := .cells #[.int .i64 a0_0, .int .i64 a0_1, .slice A0_2 l0_2.length c0_2] 24 (0, 0)) (bA_ BK313) hb)
        have n7_ := zA (zU (g := gb314) (o := .cells #[.int .i64 a1_0, .int .i64 a1_1, .slice A1_2 l1_2.length c1_2] 24 (0, 0)) (bA_ BK314) hb)
        have n8_ := zA (zU (g := gb336) (o := .cells #[.int .i64 t331, .int .i64 t332, .slice Ao47 t333.length co47] 26 (0, 0)) (bA_ BK336) hb)
        have n9_ := zA (zU (g := gb342) (o := .cells #[.int .i64 t337, .int .i64 t338, .slice Ao55 t339.length co55] 26 (0, 0)) (bA_ BK342) hb)
        have n10_ := zA (below_step (bB_ HB) hb)
        clear HO_10
        clear HO_14
        clear HO_337002
        clear HO_343002
        clear HO352
        clear HO358
        clear BK313
        clear BK314
        clear BK336
        clear BK342
        clear HB
        have HO_10 := n0_
        have HO_14 := n1_
        have HO_337002 := n2_
        have HO_343002 := n3_
        have HO352 := n4_
        have HO358 := n5_
        have BK313 := n6_
        have BK314 := n7_
        have BK336 := n8_
        have BK342 := n9_
        have HB := n10_
        clear n0_ n1_ n2_ n3_ n4_ n5_ n6_ n7_ n8_ n9_ n10_
        (try clear hb)
        (try clear hb2)
        (try clear hk)
        (try clear hi)
        refine hK.out _ _ ⟨(blk_cell BK342.out 0).trans rfl, (blk_cell BK342.out 1).trans rfl, (blk_cell BK342.out 2).trans rfl, (blk_cell BK314.out 0).trans rfl, (blk_cell BK314.out 1).trans rfl, (blk_cell BK314.out 2).trans rfl⟩ (fun hHeld => ?_)
        clear hK K
        refine norm_ (a' := ?_) ?_ ?_
        rotate_left
        ·show Act.put _ (some 70) _ = _
         simp only [Act.put, zB, zC, zD, i64_w, i32_w]
         rfl
        refine pure_ (i := 4) (N := some 71) (v := ?_) (a' := ?_) #[true, true, true, true, true] rfl rfl (by kernel_rfl) (fun _ _ _ h => h) (Or.inl ⟨by rfl, ?_⟩) ?_ ?_
        rotate_left
        ·intro w'
         go_simp
         with_reducible rfl
        rotate_left
        ·simp only [Act.put, zB, zC, zD, i64_w, i32_w]
         rfl
        refine done_ (by kernel_rfl) ?_
        try go_wp2
        go_ret
        exact ⟨by first | rfl | (simp [errW_none, errW_some] <;> rfl) | (simp [*, errW_none, errW_some] <;> rfl), bB_ HB⟩
      ·replace c69 := Bool.eq_false_iff.mpr c69
       subst c69
       have H1 : (some false) = some r := by rw [if_neg (show ¬ (false = true) by decide)] at H; exact H
       clear H
       have H := H1
       clear H1
       obtain rfl := Option.some.inj H
       try go_wp2
       have n0_ := zA (zG HO_10.out)
       have n1_ := zA (zG HO_14.out)
       have n2_ := zA (zG HO_337002.out)
       have n3_ := zA (zG HO_343002.out)
       have n4_ := zA (zN BK313.out)
       have n5_ := zA (zN BK314.out)
       have n6_ := zA (zN BK336.out)
       have n7_ := zA (zN BK342.out)
       have n8_ := zA (zQ HB.out)
       clear HO_10
       clear HO_14
       clear HO_337002
       clear HO_343002
       clear BK313
       clear BK314
       clear BK336
       clear BK342
       clear HB
       have HO_10 := n0_
       have HO_14 := n1_
       have HO_337002 := n2_
       have HO_343002 := n3_
       have BK313 := n4_
       have BK314 := n5_
       have BK336 := n6_
       have BK342 := n7_
       have HB := n8_
       clear n0_ n1_ n2_ n3_ n4_ n5_ n6_ n7_ n8_
       refine start_ (n := 5) (S := fun w' => w'.cell? ⟨gb336, 0, none⟩ = some (.int .i64 t331) ∧ w'.cell? ⟨gb336, 1, none⟩ = some (.int .i64 t332) ∧ w'.cell? ⟨gb336, 2, none⟩ = some (.slice Ao47 t333.length co47) ∧ w'.cell? ⟨gb313, 0, none⟩ = some (.int .i64 a0_0) ∧ w'.cell? ⟨gb313, 1, none⟩ = some (.int .i64 a0_1) ∧ w'.cell? ⟨gb313, 2, none⟩ = some (.slice A0_2 l0_2.length c0_2)) (ds := []) #[false, false, false, false, false] (by kernel_rfl) rfl rfl ⟨(blk_cell BK336.out 0).trans rfl, (blk_cell BK336.out 1).trans rfl, (blk_cell BK336.out 2).trans rfl, (blk_cell BK313.out 0).trans rfl, (blk_cell BK313.out 1).trans rfl, (blk_cell BK313.out 2).trans rfl⟩ (fun hHeld => ?_)
       generalize wc.drew = w143 at HO_10 HO_14 HO_337002 HO_343002 BK313 BK314 BK336 BK342 HB hHeld ⊢
       refine take_ (i := 0) (N := some 62) (v := ?_) (a' := ?_) #[true, false, false, false, false] rfl rfl (by kernel_rfl) (fun _ _ _ h => h) (Or.inl ⟨by rfl, ?_⟩) hHeld ?_ ?_
       rotate_left
       ·rintro w' ⟨s0, s1, s2, s3, s4, s5⟩
        go_simp
        with_reducible rfl
       rotate_left
       ·simp only [Act.put, zB, zC, zD, i64_w, i32_w]
        rfl
       refine take_ (i := 1) (N := some 63) (v := ?_) (a' := ?_) #[true, true, false, false, false] rfl rfl (by kernel_rfl) (fun _ _ _ h => h) (Or.inl ⟨by rfl, ?_⟩) hHeld ?_ ?_
       rotate_left
       ·rintro w' ⟨s0, s1, s2, s3, s4, s5⟩
        go_simp
        with_reducible rfl
       rotate_left
       ·simp only [Act.put, zB, zC, zD, i64_w, i32_w]
        rfl
       refine one_ (i := 2) (N := some 64) #[true, true, true, false, false] rfl rfl (by kernel_rfl) (by decide) (fun K hK => ?_)
       refine goes_ Try.func11 (by kernel_rfl) rfl #[.agg #[.int .i64 a0_0, .int .i64 a0_1, .slice A0_2 l0_2.length c0_2]] (by rfl) rfl rfl (by (try simp only [List.map_toArray, List.map_cons, List.map_nil]); first | done | rfl | (simp only [List.length_drop, List.length_take]; rfl)) ?_
       with_reducible refine (laws_toField.calls kj26 a0_0 a0_1 _ _ l0_2 t348 t349 t350 _ ?side1 ?side2 A67.out).mono ?_
       (case side1 => repeat (first | exact (Kd.C_below HR0_2.out HB.out) | (with_reducible refine zI ?_ _) | (with_reducible refine zH ?_ _) | (with_reducible refine zJ ?_)))
       (case side2 => exact HC0_2.out)
       rintro e w144 ⟨v351, rfl, ho0, hb⟩
       refine ⟨_, rfl, ?_⟩
       have n0_ := zA (zL (bC_ HO_10) hb)
       have n1_ := zA (zL (bC_ HO_14) hb)
       have n2_ := zA (Kd.R_elder' (bC_ HO_337002) (Kd.R_base ho0) hb)
       have n3_ := zA (Kd.R_elder' (bC_ HO_343002) (Kd.R_base ho0) hb)
       have n4_ := zA (Kd.R_lower (Kd.R_new' (Kd.R_new' ho0 (Kd.R_lt (bC_ HO_337002))) (Kd.R_lt (bC_ HO_343002))) (zT (bB_ HB)))
       have n5_ := zA (zU (g := gb313) (o := .cells #[.int .i64 a0_0, .int .i64 a0_1, .slice A0_2 l0_2.length c0_2] 24 (0, 0)) (bA_ BK313) hb)
       have n6_ := zA (zU (g := gb314) (o := .cells #[.int .i64 a1_0, .int .i64 a1_1, .slice A1_2 l1_2.length c1_2] 24 (0, 0)) (bA_ BK314) hb)
       have n7_ := zA (zU (g := gb336) (o := .cells #[.int .i64 t331, .int .i64 t332, .slice Ao47 t333.length co47] 26 (0, 0)) (bA_ BK336) hb)
       have n8_ := zA (zU (g := gb342) (o := .cells #[.int .i64 t337, .int .i64 t338, .slice Ao55 t339.length co55] 26 (0, 0)) (bA_ BK342) hb)
       have n9_ := zA (below_step (bB_ HB) hb)
       clear HO_10
       clear HO_14
       clear HO_337002
       clear HO_343002
       clear BK313
       clear BK314
       clear BK336
       clear BK342
       clear HB
       have HO_10 := n0_
       have HO_14 := n1_
       have HO_337002 := n2_
       have HO_343002 := n3_
       have HO352 := n4_
       have BK313 := n5_
       have BK314 := n6_
       have BK336 := n7_
       have BK342 := n8_
       have HB := n9_
       clear n0_ n1_ n2_ n3_ n4_ n5_ n6_ n7_ n8_ n9_
       (try clear hb)
       (try clear hb2)
       (try clear hk)
       (try clear hi)
       (try clear ho0)
       obtain ⟨Ao145, co145, eo145⟩ := Kd.R_slice HO352.out
       (first | subst eo145 | (injection eo145 with f1_ f2_ f3_; have f4_ := f1_.symm; have f5_ := f3_.symm; clear f1_ f2_ f3_; subst f4_; subst f5_))
       refine hK.out _ _ ⟨(blk_cell BK336.out 0).trans rfl, (blk_cell BK336.out 1).trans rfl, (blk_cell BK336.out 2).trans rfl, (blk_cell BK313.out 0).trans rfl, (blk_cell BK313.out 1).trans rfl, (blk_cell BK313.out 2).trans rfl⟩ (fun hHeld => ?_)
       clear hK K
       refine norm_ (a' := ?_) ?_ ?_
       rotate_left
       ·show Act.put _ (some 64) _ = _
        simp only [Act.put, zB, zC, zD, i64_w, i32_w]
        rfl
       refine one_ (i := 3) (N := some 65) #[true, true, true, true, false] rfl rfl (by kernel_rfl) (by decide) (fun K hK => ?_)
       refine goes_ Try.func13 (by kernel_rfl) rfl #[.agg #[.int .i64 t331, .int .i64 t332, .slice Ao47 t333.length co47], .agg #[.int .i64 t348, .int .i64 t349, .slice Ao145 t350.length co145]] (by rfl) rfl rfl (by (try simp only [List.map_toArray, List.map_cons, List.map_nil]); first | done | rfl | (simp only [List.length_drop, List.length_take]; rfl)) ?_
       with_reducible refine (laws_eqField.calls kj26 t331 t332 _ _ t333 t348 t349 _ _ t350 false _ ?side1 ?side2 ?side3 ?side4 A68.out).mono ?_
       (case side1 => repeat (first | exact (zK HO_337002.out).2.2 | (with_reducible refine zI ?_ _) | (with_reducible refine zH ?_ _) | (with_reducible refine zJ ?_)))
       (case side2 => exact (zK HO_337002.out).2.1)
       (case side3 => repeat (first | exact (zK HO352.out).2.2 | (with_reducible refine zI ?_ _) | (with_reducible refine zH ?_ _) | (with_reducible refine zJ ?_)))
       (case side4 => exact (zK HO352.out).2.1)
       rintro e w146 ⟨rfl, hb⟩
       refine ⟨_, rfl, ?_⟩
       have n0_ := zA (zL (bC_ HO_10) hb)
       have n1_ := zA (zL (bC_ HO_14) hb)
       have n2_ := zA (zL (bC_ HO_337002) hb)
       have n3_ := zA (zL (bC_ HO_343002) hb)
       have n4_ := zA (zL (bC_ HO352) hb)
       have n5_ := zA (zU (g := gb313) (o := .cells #[.int .i64 a0_0, .int .i64 a0_1, .slice A0_2 l0_2.length c0_2] 24 (0, 0)) (bA_ BK313) hb)
       have n6_ := zA (zU (g := gb314) (o := .cells #[.int .i64 a1_0, .int .i64 a1_1, .slice A1_2 l1_2.length c1_2] 24 (0, 0)) (bA_ BK314) hb)
       have n7_ := zA (zU (g := gb336) (o := .cells #[.int .i64 t331, .int .i64 t332, .slice Ao47 t333.length co47] 26 (0, 0)) (bA_ BK336) hb)
       have n8_ := zA (zU (g := gb342) (o := .cells #[.int .i64 t337, .int .i64 t338, .slice Ao55 t339.length co55] 26 (0, 0)) (bA_ BK342) hb)
       have n9_ := zA (below_step (bB_ HB) hb)
       clear HO_10
       clear HO_14
       clear HO_337002
       clear HO_343002
       clear HO352
       clear BK313
       clear BK314
       clear BK336
       clear BK342
       clear HB
       have HO_10 := n0_
       have HO_14 := n1_
       have HO_337002 := n2_
       have HO_343002 := n3_
       have HO352 := n4_
       have BK313 := n5_
       have BK314 := n6_
       have BK336 := n7_
       have BK342 := n8_
       have HB := n9_
       clear n0_ n1_ n2_ n3_ n4_ n5_ n6_ n7_ n8_ n9_
       (try clear hb)
       (try clear hb2)
       (try clear hk)
       (try clear hi)
       refine hK.out _ _ ⟨(blk_cell BK336.out 0).trans rfl, (blk_cell BK336.out 1).trans rfl, (blk_cell BK336.out 2).trans rfl, (blk_cell BK313.out 0).trans rfl, (blk_cell BK313.out 1).trans rfl, (blk_cell BK313.out 2).trans rfl⟩ (fun hHeld => ?_)
       clear hK K
       refine norm_ (a' := ?_) ?_ ?_
       rotate_left
       ·show Act.put _ (some 65) _ = _
        simp only [Act.put, zB, zC, zD, i64_w, i32_w]
        rfl
       refine pure_ (i := 4) (N := some 66) (v := ?_) (a' := ?_) #[true, true, true, true, true] rfl rfl (by kernel_rfl) (fun _ _ _ h => h) (Or.inl ⟨by rfl, ?_⟩) ?_ ?_
       rotate_left
       ·intro w'
        go_simp
        with_reducible rfl
       rotate_left
       ·simp only [Act.put, zB, zC, zD, i64_w, i32_w]
        rfl
       refine done_ (by kernel_rfl) ?_
       try go_wp2
       go_ret
       exact ⟨by first | rfl | (simp [errW_none, errW_some] <;> rfl) | (simp [*, errW_none, errW_some] <;> rfl), bB_ HB⟩

end Go.Proofs.Ytgmbbcnfcddamaa.PFnExactZigzag
