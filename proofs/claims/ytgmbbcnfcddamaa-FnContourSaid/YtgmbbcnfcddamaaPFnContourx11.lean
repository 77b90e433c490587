/- Written for this claim by a program of this session: the functions that the law reaches, each with its contract. -/
import Derived.Test.YtgmbbcnfcddamaaPFnContourx0
import Derived.Test.YtgmbbcnfcddamaaPFnContourx1
import Derived.Test.YtgmbbcnfcddamaaPFnContourx4
import Derived.Test.YtgmbbcnfcddamaaPFnContourx6
import Derived.Test.YtgmbbcnfcddamaaPFnContourx9
import Derived.Test.YtgmbbcnfcddamaaPFnContourx10
namespace Go.Proofs.Ytgmbbcnfcddamaa.PFnContour
open Go.RowKit Go.Proofs.YtgmbbcnfcddamaaW.PrintWords Go.Proofs.YtgmbbcnfcddamaaW.PrintLast Go.Proofs.YtgmbbcnfcddamaaW.PrintMore
open Go.Proofs.YtgmbbcnfcddamaaW.PrintWords.Aside0 renaming mk → zA
open Go.Proofs.YtgmbbcnfcddamaaW.PrintWords.Kd renaming R_drewN → zE, R_alloc → zF, R_drew → zG, C_drewN → zH, C_alloc → zI, C_drew → zJ, R_reads' → zK, R_below → zL
open Go.Proofs.YtgmbbcnfcddamaaW.PrintWords renaming blk_drewN → zM, blk_drew → zN, blk_alloc → zO, below_size → zT, blk_below → zU
attribute [local go_sem] i64_w max2_int min2_int max_two min_two max_three min_three max_four min_four
set_option linter.unusedVariables false
set_option linter.unusedSimpArgs false

attribute [local go_sem high] eqA43
mutual
def laws_FnContour.j0 : Nat → List Int → List Int → Bool → Option (Bool)
 | 0, _, _, _ => none
 | k + 1, x0, x1, x30 => if x30 = true then (some true) else ((spec_JobOf.f k x0).bind fun bt315 => ((laws_at.f x1 0 10).bind fun t328 => ((impl_Contour.f k bt315.2.2.2.1 bt315.2.2.2.2.1 bt315.2.2.2.2.2.1 t328).bind fun bt329 => ((spec_Contour.f k bt315.2.2.2.1 bt315.2.2.2.2.1 bt315.2.2.2.2.2.1 t328).bind fun bt333 => (if bt329.2 = bt333.2 then ((laws_samePoints.f k bt329.1 bt333.1).bind fun t337 => (laws_FnContour.j1 k t328 bt329.1 bt329.2 (!t337) bt315.2.2.2.1 bt315.2.2.2.2.1 bt315.2.2.2.2.2.1)) else (laws_FnContour.j1 k t328 bt329.1 bt329.2 true bt315.2.2.2.1 bt315.2.2.2.2.1 bt315.2.2.2.2.2.1))))))
def laws_FnContour.j1 : Nat → Int → List (S43) → Int → Bool → Int → Int → List Int → Option (Bool)
 | 0, _, _, _, _, _, _, _ => none
 | k + 1, x8, x9, x10, x59, x328000, x328001, x328002 => if x59 = true then (some false) else (if x10 = 0 then (laws_FnContour.l0 k x8 x9 0 0 x328000 x328001 x328002) else (some ((x9.length : Int) == 0)))
def laws_FnContour.l0 : Nat → Int → List (S43) → Int → Int → Int → Int → List Int → Option (Bool)
 | 0, _, _, _, _, _, _, _ => none
 | k + 1, x8, x9, x13, x14, x328000, x328001, x328002 => if x14 < (x9.length : Int) then (if 0 ≤ x14 then (if (x9.length : Int) = 0 then (none) else (if 0 ≤ (Int.tmod (wrap64 (x14 + 1)) (x9.length : Int)) then (if (Int.tmod (wrap64 (x14 + 1)) (x9.length : Int)) < (x9.length : Int) then ((laws_sign.f (wrap64 (((rd_T43 x9 (Int.tmod (wrap64 (x14 + 1)) (x9.length : Int))).f0) - ((rd_T43 x9 x14).f0)))).bind fun t342 => ((laws_sign.f (wrap64 (((rd_T43 x9 (Int.tmod (wrap64 (x14 + 1)) (x9.length : Int))).f1) - ((rd_T43 x9 x14).f1)))).bind fun t343 => ((laws_abs.f t342).bind fun t344 => ((laws_abs.f t343).bind fun t345 => (if (wrap64 (t344 + t345)) = 1 then (laws_FnContour.l1 k x8 x9 (wrap64 (x13 + (wrap64 ((wrap64 (((rd_T43 x9 x14).f0) * ((rd_T43 x9 (Int.tmod (wrap64 (x14 + 1)) (x9.length : Int))).f1))) - (wrap64 (((rd_T43 x9 x14).f1) * ((rd_T43 x9 (Int.tmod (wrap64 (x14 + 1)) (x9.length : Int))).f0))))))) x14 t342 t343 x328000 x328001 x328002 ((rd_T43 x9 x14).f0) ((rd_T43 x9 x14).f1) ((rd_T43 x9 (Int.tmod (wrap64 (x14 + 1)) (x9.length : Int))).f0) ((rd_T43 x9 (Int.tmod (wrap64 (x14 + 1)) (x9.length : Int))).f1)) else (some false)))))) else (none)) else (none))) else (none)) else (some (decide (x13 > 0)))
def laws_FnContour.l1 : Nat → Int → List (S43) → Int → Int → Int → Int → Int → Int → List Int → Int → Int → Int → Int → Option (Bool)
 | 0, _, _, _, _, _, _, _, _, _, _, _, _, _ => none
 | k + 1, x8, x9, x13, x14, x17, x18, x328000, x328001, x328002, x340000, x340001, x342000, x342001 => if (!(x340000 == x342000) || (!(x340001 == x342001))) = true then ((laws_above.f x328000 x328001 x328002 (wrap64 ((wrap64 (x340000 + (mn x17 0))) + (mn (wrap64 (-x18)) 0))) (wrap64 ((wrap64 (x340001 + (mn x18 0))) + (mn x17 0))) x8).bind fun t346 => (if t346 = true then ((laws_above.f x328000 x328001 x328002 (wrap64 ((wrap64 (x340000 + (mn x17 0))) + (mn x18 0))) (wrap64 ((wrap64 (x340001 + (mn x18 0))) + (mn (wrap64 (-x17)) 0))) x8).bind fun t347 => (if t347 = true then (some false) else (laws_FnContour.l1 k x8 x9 x13 x14 x17 x18 x328000 x328001 x328002 (wrap64 (x340000 + x17)) (wrap64 (x340001 + x18)) x342000 x342001))) else (some false))) else (laws_FnContour.l0 k x8 x9 x13 (wrap64 (x14 + 1)) x328000 x328001 x328002)
end
def laws_FnContour.f (k : Nat) (l0 : List Int) (l1 : List Int) : Option (Bool) := if (l0.length : Int) > 1048576 then (laws_FnContour.j0 k l0 l1 true) else (laws_FnContour.j0 k l0 l1 (decide ((l1.length : Int) > 1048576)))
theorem laws_FnContour.mono_l : ∀ k, (∀ y0 y1 y2, LeO (laws_FnContour.j0 k y0 y1 y2) (laws_FnContour.j0 (k + 1) y0 y1 y2)) ∧ (∀ y0 y1 y2 y3 y4 y5 y6, LeO (laws_FnContour.j1 k y0 y1 y2 y3 y4 y5 y6) (laws_FnContour.j1 (k + 1) y0 y1 y2 y3 y4 y5 y6)) ∧ (∀ y0 y1 y2 y3 y4 y5 y6, LeO (laws_FnContour.l0 k y0 y1 y2 y3 y4 y5 y6) (laws_FnContour.l0 (k + 1) y0 y1 y2 y3 y4 y5 y6)) ∧ (∀ y0 y1 y2 y3 y4 y5 y6 y7 y8 y9 y10 y11 y12, LeO (laws_FnContour.l1 k y0 y1 y2 y3 y4 y5 y6 y7 y8 y9 y10 y11 y12) (laws_FnContour.l1 (k + 1) y0 y1 y2 y3 y4 y5 y6 y7 y8 y9 y10 y11 y12))
 | 0 => ⟨fun _ _ _ r h => by simp [laws_FnContour.j0] at h, fun _ _ _ _ _ _ _ r h => by simp [laws_FnContour.j1] at h, fun _ _ _ _ _ _ _ r h => by simp [laws_FnContour.l0] at h, fun _ _ _ _ _ _ _ _ _ _ _ _ _ r h => by simp [laws_FnContour.l1] at h⟩
 | k + 1 => by
  obtain ⟨ih0, ih1, ih2, ih3⟩ := laws_FnContour.mono_l k
  refine ⟨?_, ?_, ?_, ?_⟩
  ·intro y0 y1 y2
   unfold laws_FnContour.j0
   repeat' first
   | (with_reducible exact ih0 _ _ _)
   | (with_reducible exact ih1 _ _ _ _ _ _ _)
   | (with_reducible exact ih2 _ _ _ _ _ _ _)
   | (with_reducible exact ih3 _ _ _ _ _ _ _ _ _ _ _ _ _)
   | (with_reducible exact impl_Contour.mono _ _ _ _ _)
   | (with_reducible exact laws_samePoints.mono _ _ _)
   | (with_reducible exact spec_Contour.mono _ _ _ _ _)
   | (with_reducible exact spec_JobOf.mono _ _)
   | (with_reducible exact LeO.refl _)
   | (with_reducible exact LeO.none _)
   | (with_reducible refine LeO.ite ?_ ?_)
   | (with_reducible refine LeO.bind ?_ (fun _ => ?_))
   | exact ih0 _ _ _
   | exact ih1 _ _ _ _ _ _ _
   | exact ih2 _ _ _ _ _ _ _
   | exact ih3 _ _ _ _ _ _ _ _ _ _ _ _ _
   | exact impl_Contour.mono _ _ _ _ _
   | exact laws_samePoints.mono _ _ _
   | exact spec_Contour.mono _ _ _ _ _
   | exact spec_JobOf.mono _ _
   | exact LeO.none _
   | refine LeO.ite ?_ ?_
   | refine LeO.bind ?_ (fun _ => ?_)
  ·intro y0 y1 y2 y3 y4 y5 y6
   unfold laws_FnContour.j1
   repeat' first
   | (with_reducible exact ih0 _ _ _)
   | (with_reducible exact ih1 _ _ _ _ _ _ _)
   | (with_reducible exact ih2 _ _ _ _ _ _ _)
   | (with_reducible exact ih3 _ _ _ _ _ _ _ _ _ _ _ _ _)
   | (with_reducible exact impl_Contour.mono _ _ _ _ _)
   | (with_reducible exact laws_samePoints.mono _ _ _)
   | (with_reducible exact spec_Contour.mono _ _ _ _ _)
   | (with_reducible exact spec_JobOf.mono _ _)
   | (with_reducible exact LeO.refl _)
   | (with_reducible exact LeO.none _)
   | (with_reducible refine LeO.ite ?_ ?_)
   | (with_reducible refine LeO.bind ?_ (fun _ => ?_))
   | exact ih0 _ _ _
   | exact ih1 _ _ _ _ _ _ _
   | exact ih2 _ _ _ _ _ _ _
   | exact ih3 _ _ _ _ _ _ _ _ _ _ _ _ _
   | exact impl_Contour.mono _ _ _ _ _
   | exact laws_samePoints.mono _ _ _
   | exact spec_Contour.mono _ _ _ _ _
   | exact spec_JobOf.mono _ _
   | exact LeO.none _
   | refine LeO.ite ?_ ?_
   | refine LeO.bind ?_ (fun _ => ?_)
  ·intro y0 y1 y2 y3 y4 y5 y6
   unfold laws_FnContour.l0
   repeat' first
   | (with_reducible exact ih0 _ _ _)
   | (with_reducible exact ih1 _ _ _ _ _ _ _)
   | (with_reducible exact ih2 _ _ _ _ _ _ _)
   | (with_reducible exact ih3 _ _ _ _ _ _ _ _ _ _ _ _ _)
   | (with_reducible exact impl_Contour.mono _ _ _ _ _)
   | (with_reducible exact laws_samePoints.mono _ _ _)
   | (with_reducible exact spec_Contour.mono _ _ _ _ _)
   | (with_reducible exact spec_JobOf.mono _ _)
   | (with_reducible exact LeO.refl _)
   | (with_reducible exact LeO.none _)
   | (with_reducible refine LeO.ite ?_ ?_)
   | (with_reducible refine LeO.bind ?_ (fun _ => ?_))
   | exact ih0 _ _ _
   | exact ih1 _ _ _ _ _ _ _
   | exact ih2 _ _ _ _ _ _ _
   | exact ih3 _ _ _ _ _ _ _ _ _ _ _ _ _
   | exact impl_Contour.mono _ _ _ _ _
   | exact laws_samePoints.mono _ _ _
   | exact spec_Contour.mono _ _ _ _ _
   | exact spec_JobOf.mono _ _
   | exact LeO.none _
   | refine LeO.ite ?_ ?_
   | refine LeO.bind ?_ (fun _ => ?_)
  ·intro y0 y1 y2 y3 y4 y5 y6 y7 y8 y9 y10 y11 y12
   unfold laws_FnContour.l1
   repeat' first
   | (with_reducible exact ih0 _ _ _)
   | (with_reducible exact ih1 _ _ _ _ _ _ _)
   | (with_reducible exact ih2 _ _ _ _ _ _ _)
   | (with_reducible exact ih3 _ _ _ _ _ _ _ _ _ _ _ _ _)
   | (with_reducible exact impl_Contour.mono _ _ _ _ _)
   | (with_reducible exact laws_samePoints.mono _ _ _)
   | (with_reducible exact spec_Contour.mono _ _ _ _ _)
   | (with_reducible exact spec_JobOf.mono _ _)
   | (with_reducible exact LeO.refl _)
   | (with_reducible exact LeO.none _)
   | (with_reducible refine LeO.ite ?_ ?_)
   | (with_reducible refine LeO.bind ?_ (fun _ => ?_))
   | exact ih0 _ _ _
   | exact ih1 _ _ _ _ _ _ _
   | exact ih2 _ _ _ _ _ _ _
   | exact ih3 _ _ _ _ _ _ _ _ _ _ _ _ _
   | exact impl_Contour.mono _ _ _ _ _
   | exact laws_samePoints.mono _ _ _
   | exact spec_Contour.mono _ _ _ _ _
   | exact spec_JobOf.mono _ _
   | exact LeO.none _
   | refine LeO.ite ?_ ?_
   | refine LeO.bind ?_ (fun _ => ?_)
theorem laws_FnContour.mono : ∀ a0 a1 k, LeO (laws_FnContour.f k a0 a1) (laws_FnContour.f (k + 1) a0 a1) := by
 intro a0 a1 k
 obtain ⟨ih0, ih1, ih2, ih3⟩ := laws_FnContour.mono_l k
 unfold laws_FnContour.f
 repeat' first
   | (with_reducible exact ih0 _ _ _)
   | (with_reducible exact ih1 _ _ _ _ _ _ _)
   | (with_reducible exact ih2 _ _ _ _ _ _ _)
   | (with_reducible exact ih3 _ _ _ _ _ _ _ _ _ _ _ _ _)
   | (with_reducible exact impl_Contour.mono _ _ _ _ _)
   | (with_reducible exact laws_samePoints.mono _ _ _)
   | (with_reducible exact spec_Contour.mono _ _ _ _ _)
   | (with_reducible exact spec_JobOf.mono _ _)
   | (with_reducible exact LeO.refl _)
   | (with_reducible exact LeO.none _)
   | (with_reducible refine LeO.ite ?_ ?_)
   | (with_reducible refine LeO.bind ?_ (fun _ => ?_))
   | exact ih0 _ _ _
   | exact ih1 _ _ _ _ _ _ _
   | exact ih2 _ _ _ _ _ _ _
   | exact ih3 _ _ _ _ _ _ _ _ _ _ _ _ _
   | exact impl_Contour.mono _ _ _ _ _
   | exact laws_samePoints.mono _ _ _
   | exact spec_Contour.mono _ _ _ _ _
   | exact spec_JobOf.mono _ _
   | exact LeO.none _
   | refine LeO.ite ?_ ?_
   | refine LeO.bind ?_ (fun _ => ?_)
set_option maxHeartbeats 8000000 in
set_option maxRecDepth 100000 in
theorem laws_FnContour.calls (k : Nat) (A0 : Option Addr) (c0 : Nat) (l0 : List Int) (A1 : Option Addr) (c1 : Nat) (l1 : List Int) (r : Bool) (w : World) (hr0 : Kd.C (Kd.int .u8) w A0 l0.length l0) (hc0 : l0.length ≤ c0) (hr1 : Kd.C (Kd.int .u8) w A1 l1.length l1) (hc1 : l1.length ≤ c1) (h : laws_FnContour.f k l0 l1 = some r) :
  Calls Try.prog 5 #[.slice A0 l0.length c0, .slice A1 l1.length c1] w fun e w' => e = .returned (.bool r) ∧ Below w.heap.size w w' := by
 have hu26 := Try.underlying26
 have hu43 := Try.underlying43
 have HR0 := zA hr0
 have HC0 := zA hc0
 clear hr0 hc0
 have HR1 := zA hr1
 have HC1 := zA hc1
 clear hr1 hc1
 have HB := zA (Below.refl w.heap.size w)
 have H : (if (l0.length : Int) > 1048576 then (laws_FnContour.j0 k l0 l1 true) else (laws_FnContour.j0 k l0 l1 (decide ((l1.length : Int) > 1048576)))) = some r := h
 clear h
 have HC3 := zA H
 clear H
 go_enter Try.func5, Try.ntmps5
 go_upto_region 1 with (fail)
 go_cut [30] (fun v30 wc => ∃ (kq : Nat) (x30_2 : Bool), v30 = .bool x30_2 ∧ Aside0 (laws_FnContour.j0 kq l0 l1 x30_2 = some r) ∧ Aside0 (kq ≤ k) ∧ Aside0 (Below w.heap.size w wc))
 case first =>
  have H := HC3.out
  clear HC3
  by_cases c4 : (l0.length : Int) > 1048576
  ·rw [if_pos c4] at H
   have c4b0 : decide (1048576 < (l0.length : Int)) = true := decide_eq_true c4
   have c4b1 : decide (1048576 < l0.length) = true := decide_eq_true (by omega)
   clear c4
   (first | rw [c4b0] | (simp only [i64_w, i32_w]; rw [c4b0]) | skip)
   have H' := zA H
   clear H
   go_wp2
   go_meet
   case rel => exact ⟨_, (true), (by first | rfl | (simp; done) | (simp [*]; done)), H', ⟨by first | omega | exact Nat.le_refl _⟩, ⟨bB_ HB⟩⟩
  ·rw [if_neg c4] at H
   have c4b0 : decide (1048576 < (l0.length : Int)) = false := decide_eq_false c4
   have c4b1 : decide (1048576 < l0.length) = false := decide_eq_false (by omega)
   clear c4
   (first | rw [c4b0] | (simp only [i64_w, i32_w]; rw [c4b0]) | skip)
   have H' := zA H
   clear H
   go_wp2
   go_meet
   case rel => exact ⟨_, (decide ((l1.length : Int) > 1048576)), (by first | rfl | (simp; done) | (simp [*]; done)), H', ⟨by first | omega | exact Nat.le_refl _⟩, ⟨bB_ HB⟩⟩
 case rest =>
  clear HC3
  try clear c1
  try clear p2
  try clear c4
  try clear c4b0
  try clear c4b1
  obtain ⟨kq, x30_2, rfl, HA, HJ2, HB⟩ := hcut
  cases kq with
  | zero => exact absurd HA.out (by simp [laws_FnContour.j0])
  | succ kj2 =>
   have H := HA.out
   clear HA
   simp only [laws_FnContour.j0] at H
   by_cases c5 : x30_2 = true
   ·subst c5
    have H1 : (some true) = some r := by rw [if_pos rfl] at H; exact H
    clear H
    have H := H1
    clear H1
    obtain rfl := Option.some.inj H
    go_wp2
    go_ret
    exact ⟨by first | rfl | (simp [errW_none, errW_some] <;> rfl) | (simp [*, errW_none, errW_some] <;> rfl), bB_ HB⟩
   ·replace c5 := Bool.eq_false_iff.mpr c5
    subst c5
    have H1 : ((spec_JobOf.f kj2 l0).bind fun bt315 => ((laws_at.f l1 0 10).bind fun t328 => ((impl_Contour.f kj2 bt315.2.2.2.1 bt315.2.2.2.2.1 bt315.2.2.2.2.2.1 t328).bind fun bt329 => ((spec_Contour.f kj2 bt315.2.2.2.1 bt315.2.2.2.2.1 bt315.2.2.2.2.2.1 t328).bind fun bt333 => (if bt329.2 = bt333.2 then ((laws_samePoints.f kj2 bt329.1 bt333.1).bind fun t337 => (laws_FnContour.j1 kj2 t328 bt329.1 bt329.2 (!t337) bt315.2.2.2.1 bt315.2.2.2.2.1 bt315.2.2.2.2.2.1)) else (laws_FnContour.j1 kj2 t328 bt329.1 bt329.2 true bt315.2.2.2.1 bt315.2.2.2.2.1 bt315.2.2.2.2.2.1)))))) = some r := by rw [if_neg (show ¬ (false = true) by decide)] at H; exact H
    clear H
    have H := H1
    clear H1
    replace H := Option.bind_eq_some_iff.mp H
    obtain ⟨⟨t315, t316, t317, t320, t321, t322, t325⟩, A60, H⟩ := H
    replace H : ((laws_at.f l1 0 10).bind fun t328 => ((impl_Contour.f kj2 t320 t321 t322 t328).bind fun bt329 => ((spec_Contour.f kj2 t320 t321 t322 t328).bind fun bt333 => (if bt329.2 = bt333.2 then ((laws_samePoints.f kj2 bt329.1 bt333.1).bind fun t337 => (laws_FnContour.j1 kj2 t328 bt329.1 bt329.2 (!t337) t320 t321 t322)) else (laws_FnContour.j1 kj2 t328 bt329.1 bt329.2 true t320 t321 t322))))) = some r := H
    have A6 := zA A60
    clear A60
    replace H := Option.bind_eq_some_iff.mp H
    obtain ⟨t328, A70, H⟩ := H
    replace H : ((impl_Contour.f kj2 t320 t321 t322 t328).bind fun bt329 => ((spec_Contour.f kj2 t320 t321 t322 t328).bind fun bt333 => (if bt329.2 = bt333.2 then ((laws_samePoints.f kj2 bt329.1 bt333.1).bind fun t337 => (laws_FnContour.j1 kj2 t328 bt329.1 bt329.2 (!t337) t320 t321 t322)) else (laws_FnContour.j1 kj2 t328 bt329.1 bt329.2 true t320 t321 t322)))) = some r := H
    have A7 := zA A70
    clear A70
    replace H := Option.bind_eq_some_iff.mp H
    obtain ⟨⟨t329, t332⟩, A80, H⟩ := H
    replace H : ((spec_Contour.f kj2 t320 t321 t322 t328).bind fun bt333 => (if t332 = bt333.2 then ((laws_samePoints.f kj2 t329 bt333.1).bind fun t337 => (laws_FnContour.j1 kj2 t328 t329 t332 (!t337) t320 t321 t322)) else (laws_FnContour.j1 kj2 t328 t329 t332 true t320 t321 t322))) = some r := H
    have A8 := zA A80
    clear A80
    replace H := Option.bind_eq_some_iff.mp H
    obtain ⟨⟨t333, t336⟩, A90, H⟩ := H
    replace H : (if t332 = t336 then ((laws_samePoints.f kj2 t329 t333).bind fun t337 => (laws_FnContour.j1 kj2 t328 t329 t332 (!t337) t320 t321 t322)) else (laws_FnContour.j1 kj2 t328 t329 t332 true t320 t321 t322)) = some r := H
    have A9 := zA A90
    clear A90
    have HC10 := zA H
    clear H
    go_upto_region 7 with (first | ((with_reducible refine gate_callee (f := 21) rfl ?_); refine goesL_ (some 33) rfl rfl Try.func21 (by kernel_rfl) rfl #[.slice A0 l0.length c0] rfl (by (try simp only [List.map_toArray, List.map_cons, List.map_nil]); first | done | rfl | (simp only [List.length_drop, List.length_take]; rfl)) ?_; (with_reducible refine (spec_JobOf.calls kj2 _ _ l0 t315 t316 t317 t320 t321 t322 t325 _ ?side1 ?side2 A6.out).mono ?_); (case side1 => repeat (first | exact (Kd.C_below HR0.out HB.out) | (with_reducible refine zI ?_ _) | (with_reducible refine zH ?_ _) | (with_reducible refine zJ ?_))); (case side2 => exact HC0.out); rintro e w11 ⟨v318, v323, rfl, ho0, ho1, hb⟩; refine ⟨_, rfl, ?_⟩; have n0_ := zA (Kd.Q_lower ho0 (zT (bB_ HB))); have n1_ := zA (Kd.Q_lower ho1 (zT (bB_ HB))); have n2_ := zA (below_step (bB_ HB) hb); clear HB; have HO319 := n0_; have HO324 := n1_; have HB := n2_; clear n0_ n1_ n2_; (try clear hb); (try clear hb2); (try clear hk); (try clear hi); (try clear ho0); (try clear ho1)) | ((with_reducible refine gate_dst (N := 5) rfl ?_); (try (refine gate_guard (by rfl) ?_; dsimp only)); refine box_event ?hg (N := 5) ?hd (cs := #[.int .i64 0, .int .i64 0, .slice none 0 0]) (t := 26) ?hr ?_; (case hd => rfl); (case hg => rfl); (case hr => first | (go_simp; done) | (go_simp; rfl)); intro gb326 hg w12 hbox hb; have n0_ := zA (Kd.Q_below (by (with_reducible repeat (first | apply Kd.Q_alloc | apply Kd.Q_drewN | apply Kd.Q_drew)); exact HO319.out) hb); have n1_ := zA (Kd.Q_below (by (with_reducible repeat (first | apply Kd.Q_alloc | apply Kd.Q_drewN | apply Kd.Q_drew)); exact HO324.out) hb); have n2_ := zA (below_step (bB_ HB) hb); have n3_ := zA (hbox); have n4_ := zA ((by rw [hg]; exact (zT (bB_ HB)) : w.heap.size ≤ gb326)); have n5_ := zA ((by rw [hg]; exact (zT (bB_ HB)) : w.heap.size ≤ gb326)); clear HO319; clear HO324; clear HB; have HO319 := n0_; have HO324 := n1_; have HB := n2_; have BK326 := n3_; have GW326 := n4_; have GE326 := n5_; clear n0_ n1_ n2_ n3_ n4_ n5_; clear hb hbox hg) | ((with_reducible refine gate_dst (N := 6) rfl ?_); (try (refine gate_guard (by rfl) ?_; dsimp only)); refine box_event ?hg (N := 6) ?hd (cs := #[.int .i64 0, .int .i64 0, .slice none 0 0]) (t := 26) ?hr ?_; (case hd => rfl); (case hg => rfl); (case hr => first | (go_simp; done) | (go_simp; rfl)); intro gb327 hg w13 hbox hb; have n0_ := zA (Kd.Q_below (by (with_reducible repeat (first | apply Kd.Q_alloc | apply Kd.Q_drewN | apply Kd.Q_drew)); exact HO319.out) hb); have n1_ := zA (Kd.Q_below (by (with_reducible repeat (first | apply Kd.Q_alloc | apply Kd.Q_drewN | apply Kd.Q_drew)); exact HO324.out) hb); have n2_ := zA (zU (g := gb326) (o := .cells #[.int .i64 0, .int .i64 0, .slice none 0 0] 26 (0, 0)) (bA_ BK326) hb); have n3_ := zA (below_step (bB_ HB) hb); have n4_ := zA (hbox); have n5_ := zA ((by rw [hg]; exact (zT (bB_ HB)) : w.heap.size ≤ gb327)); have n6_ := zA ((by rw [hg]; exact (zT (bB_ HB)) : w.heap.size ≤ gb327)); have n7_ := zA ((by rw [hg]; exact Nat.ne_of_lt (blk_lt (g := gb326) (o := .cells #[.int .i64 0, .int .i64 0, .slice none 0 0] 26 (0, 0)) (bA_ BK326)) : gb326 ≠ gb327)); have n8_ := zA ((by rw [hg]; exact Nat.ne_of_gt (blk_lt (g := gb326) (o := .cells #[.int .i64 0, .int .i64 0, .slice none 0 0] 26 (0, 0)) (bA_ BK326)) : gb327 ≠ gb326)); clear HO319; clear HO324; clear BK326; clear HB; have HO319 := n0_; have HO324 := n1_; have BK326 := n2_; have HB := n3_; have BK327 := n4_; have GW327 := n5_; have GE327 := n6_; have NB326_327 := n7_; have NB327_326 := n8_; clear n0_ n1_ n2_ n3_ n4_ n5_ n6_ n7_ n8_; clear hb hbox hg; have hnb14 := NB326_327.out; have hnc14 := NB327_326.out; have hcz15_0 : w13.cell? ⟨gb326, 0, none⟩ = some (.int .i64 0) := (blk_cell BK326.out 0).trans rfl; have hcz15_1 : w13.cell? ⟨gb326, 1, none⟩ = some (.int .i64 0) := (blk_cell BK326.out 1).trans rfl; have hcz15_2 : w13.cell? ⟨gb326, 2, none⟩ = some (.slice none 0 0) := (blk_cell BK326.out 2).trans rfl; have hfz15_0 := blk_frozen BK326.out 0; have hfz15_1 := blk_frozen BK326.out 1; have hfz15_2 := blk_frozen BK326.out 2; obtain ⟨Ao16, co16, eo16, _⟩ := Kd.Q_slice HO319.out; subst eo16; have hcz17_0 : w13.cell? ⟨gb327, 0, none⟩ = some (.int .i64 0) := (blk_cell BK327.out 0).trans rfl; have hcz17_1 : w13.cell? ⟨gb327, 1, none⟩ = some (.int .i64 0) := (blk_cell BK327.out 1).trans rfl; have hcz17_2 : w13.cell? ⟨gb327, 2, none⟩ = some (.slice none 0 0) := (blk_cell BK327.out 2).trans rfl; have hfz17_0 := blk_frozen BK327.out 0; have hfz17_1 := blk_frozen BK327.out 1; have hfz17_2 := blk_frozen BK327.out 2; obtain ⟨Ao18, co18, eo18, _⟩ := Kd.Q_slice HO324.out; subst eo18) | ((with_reducible refine gate_callee (f := 22) rfl ?_); refine goesL_ (some 38) rfl rfl Try.func22 (by kernel_rfl) rfl #[.slice A1 l1.length c1, .int .i64 0, .int .i64 10] rfl (by (try simp only [List.map_toArray, List.map_cons, List.map_nil]); first | done | rfl | (simp only [List.length_drop, List.length_take]; rfl)) ?_; (with_reducible refine (laws_at.calls _ _ l1 0 10 t328 _ ?side1 ?side2 A7.out).mono ?_); (case side1 => exact Kd.C_below HR1.out (bB_ HB)); (case side2 => exact HC1.out); rintro e w' ⟨rfl, ⟨nd, rfl⟩⟩; refine ⟨_, rfl, ?_⟩) | ((with_reducible refine gate_callee (f := 17) rfl ?_); refine goesL_ (some 42) rfl rfl Try.func17 (by kernel_rfl) rfl #[.agg #[.int .i64 t320, .int .i64 t321, .slice Ao18 t322.length co18], .int .i64 t328] rfl (by (try simp only [List.map_toArray, List.map_cons, List.map_nil]); first | done | rfl | (simp only [List.length_drop, List.length_take]; rfl)) ?_; (with_reducible refine (impl_Contour.calls kj2 t320 t321 _ _ t322 t328 t329 t332 _ ?side1 ?side2 A8.out).mono ?_); (case side1 => refine (Kd.Q_reads' (e := 3) (base := w.heap.size) (ok := fun k_ => some k_ ≠ (.slice Ao16 t317.length co16 : Value).ownBlock) (n := t322.length) (c := co18) ?_).2.2; exact (by (with_reducible repeat (first | apply Kd.Q_alloc | apply Kd.Q_drewN | apply Kd.Q_drew)); exact (Kd.Q_mono (Kd.Q_mono (Kd.Q_far (p := ⟨gb327, 2, none⟩) (Kd.Q_far (p := ⟨gb327, 1, none⟩) (Kd.Q_far (p := ⟨gb327, 0, none⟩) (Kd.Q_far (p := ⟨gb326, 2, none⟩) (Kd.Q_far (p := ⟨gb326, 1, none⟩) (Kd.Q_far (p := ⟨gb326, 0, none⟩) (Kd.Q_types (Kd.Q_types HO324.out BK326.out (by decide)) BK327.out (by decide)) (fun _ hk => hk.1.2) (.int .i64 t315)) (fun _ hk => hk.1.2) (.int .i64 t316)) (fun _ hk => hk.1.2) (.slice Ao16 t317.length co16)) (fun _ hk => hk.2) (.int .i64 t320)) (fun _ hk => hk.2) (.int .i64 t321)) (fun _ hk => hk.2) (.slice Ao18 t322.length co18)) (fun _ h_ => h_.1)) (fun _ h_ => h_.1)))); (case side2 => exact (Kd.Q_reads' HO324.out).2.1); rintro e w19 ⟨v330, rfl, ho0, hb⟩; refine ⟨_, rfl, ?_⟩; have n0_ := zA (Kd.Q_below (by (with_reducible repeat (first | apply Kd.Q_alloc | apply Kd.Q_drewN | apply Kd.Q_drew)); exact (Kd.Q_mono (Kd.Q_mono (Kd.Q_far (p := ⟨gb327, 2, none⟩) (Kd.Q_far (p := ⟨gb327, 1, none⟩) (Kd.Q_far (p := ⟨gb327, 0, none⟩) (Kd.Q_far (p := ⟨gb326, 2, none⟩) (Kd.Q_far (p := ⟨gb326, 1, none⟩) (Kd.Q_far (p := ⟨gb326, 0, none⟩) (Kd.Q_types (Kd.Q_types HO319.out BK326.out (by decide)) BK327.out (by decide)) (fun _ hk => hk.1.2) (.int .i64 t315)) (fun _ hk => hk.1.2) (.int .i64 t316)) (fun _ hk => hk.1.2) (.slice Ao16 t317.length co16)) (fun _ hk => hk.2) (.int .i64 t320)) (fun _ hk => hk.2) (.int .i64 t321)) (fun _ hk => hk.2) (.slice Ao18 t322.length co18)) (fun _ h_ => h_.1)) (fun _ h_ => h_.1))) hb); have n1_ := zA (Kd.Q_below (by (with_reducible repeat (first | apply Kd.Q_alloc | apply Kd.Q_drewN | apply Kd.Q_drew)); exact (Kd.Q_mono (Kd.Q_mono (Kd.Q_far (p := ⟨gb327, 2, none⟩) (Kd.Q_far (p := ⟨gb327, 1, none⟩) (Kd.Q_far (p := ⟨gb327, 0, none⟩) (Kd.Q_far (p := ⟨gb326, 2, none⟩) (Kd.Q_far (p := ⟨gb326, 1, none⟩) (Kd.Q_far (p := ⟨gb326, 0, none⟩) (Kd.Q_types (Kd.Q_types HO324.out BK326.out (by decide)) BK327.out (by decide)) (fun _ hk => hk.1.2) (.int .i64 t315)) (fun _ hk => hk.1.2) (.int .i64 t316)) (fun _ hk => hk.1.2) (.slice Ao16 t317.length co16)) (fun _ hk => hk.2) (.int .i64 t320)) (fun _ hk => hk.2) (.int .i64 t321)) (fun _ hk => hk.2) (.slice Ao18 t322.length co18)) (fun _ h_ => h_.1)) (fun _ h_ => h_.1))) hb); have n2_ := zA (Kd.R_lower ho0 (zT (bB_ HB))); have n3_ := zA (zU (g := gb326) (o := .cells #[.int .i64 t315, .int .i64 t316, .slice Ao16 t317.length co16] 26 (0, 0)) (by (with_reducible repeat (first | refine zM ?_ _ | refine zN ?_ | refine zO ?_ _)); refine blk_far ?_ NB326_327.out _; (with_reducible repeat (first | refine zM ?_ _ | refine zN ?_ | refine zO ?_ _)); refine blk_far ?_ NB326_327.out _; (with_reducible repeat (first | refine zM ?_ _ | refine zN ?_ | refine zO ?_ _)); refine blk_far ?_ NB326_327.out _; (with_reducible repeat (first | refine zM ?_ _ | refine zN ?_ | refine zO ?_ _)); refine blk_put (cs := #[.int .i64 t315, .int .i64 t316, .slice none 0 0]) ?_ 2 _ rfl; (with_reducible repeat (first | refine zM ?_ _ | refine zN ?_ | refine zO ?_ _)); refine blk_put (cs := #[.int .i64 t315, .int .i64 0, .slice none 0 0]) ?_ 1 _ rfl; (with_reducible repeat (first | refine zM ?_ _ | refine zN ?_ | refine zO ?_ _)); refine blk_put (cs := #[.int .i64 0, .int .i64 0, .slice none 0 0]) ?_ 0 _ rfl; (with_reducible repeat (first | refine zM ?_ _ | refine zN ?_ | refine zO ?_ _)); exact BK326.out) hb); have n4_ := zA (zU (g := gb327) (o := .cells #[.int .i64 t320, .int .i64 t321, .slice Ao18 t322.length co18] 26 (0, 0)) (by (with_reducible repeat (first | refine zM ?_ _ | refine zN ?_ | refine zO ?_ _)); refine blk_put (cs := #[.int .i64 t320, .int .i64 t321, .slice none 0 0]) ?_ 2 _ rfl; (with_reducible repeat (first | refine zM ?_ _ | refine zN ?_ | refine zO ?_ _)); refine blk_put (cs := #[.int .i64 t320, .int .i64 0, .slice none 0 0]) ?_ 1 _ rfl; (with_reducible repeat (first | refine zM ?_ _ | refine zN ?_ | refine zO ?_ _)); refine blk_put (cs := #[.int .i64 0, .int .i64 0, .slice none 0 0]) ?_ 0 _ rfl; (with_reducible repeat (first | refine zM ?_ _ | refine zN ?_ | refine zO ?_ _)); refine blk_far ?_ NB327_326.out _; (with_reducible repeat (first | refine zM ?_ _ | refine zN ?_ | refine zO ?_ _)); refine blk_far ?_ NB327_326.out _; (with_reducible repeat (first | refine zM ?_ _ | refine zN ?_ | refine zO ?_ _)); refine blk_far ?_ NB327_326.out _; (with_reducible repeat (first | refine zM ?_ _ | refine zN ?_ | refine zO ?_ _)); exact BK327.out) hb); have n5_ := zA (below_step (bB_ HB) hb); clear HO319; clear HO324; clear BK326; clear BK327; clear HB; have HO319 := n0_; have HO324 := n1_; have HO331 := n2_; have BK326 := n3_; have BK327 := n4_; have HB := n5_; clear n0_ n1_ n2_ n3_ n4_ n5_; (try clear hb); (try clear hb2); (try clear hk); (try clear hi); (try clear ho0); have hcz20_0 : w19.cell? ⟨gb327, 0, none⟩ = some (.int .i64 t320) := (blk_cell BK327.out 0).trans rfl; have hcz20_1 : w19.cell? ⟨gb327, 1, none⟩ = some (.int .i64 t321) := (blk_cell BK327.out 1).trans rfl; have hcz20_2 : w19.cell? ⟨gb327, 2, none⟩ = some (.slice Ao18 t322.length co18) := (blk_cell BK327.out 2).trans rfl; have hfz20_0 := blk_frozen BK327.out 0; have hfz20_1 := blk_frozen BK327.out 1; have hfz20_2 := blk_frozen BK327.out 2) | ((with_reducible refine gate_callee (f := 16) rfl ?_); refine goesL_ (some 48) rfl rfl Try.func16 (by kernel_rfl) rfl #[.agg #[.int .i64 t320, .int .i64 t321, .slice Ao18 t322.length co18], .int .i64 t328] rfl (by (try simp only [List.map_toArray, List.map_cons, List.map_nil]); first | done | rfl | (simp only [List.length_drop, List.length_take]; rfl)) ?_; (with_reducible refine (spec_Contour.calls kj2 t320 t321 _ _ t322 t328 t333 t336 _ ?side1 ?side2 A9.out).mono ?_); (case side1 => repeat (first | exact (Kd.Q_reads' HO324.out).2.2 | (with_reducible refine zI ?_ _) | (with_reducible refine zH ?_ _) | (with_reducible refine zJ ?_))); (case side2 => exact (Kd.Q_reads' HO324.out).2.1); rintro e w21 ⟨v334, rfl, ho0, hb⟩; refine ⟨_, rfl, ?_⟩; have n0_ := zA (Kd.Q_below (by (with_reducible repeat (first | apply Kd.Q_alloc | apply Kd.Q_drewN | apply Kd.Q_drew)); exact HO319.out) hb); have n1_ := zA (Kd.Q_below (by (with_reducible repeat (first | apply Kd.Q_alloc | apply Kd.Q_drewN | apply Kd.Q_drew)); exact HO324.out) hb); have n2_ := zA (Kd.R_elder' (bC_ HO331) (Kd.R_base ho0) hb); have n3_ := zA (Kd.R_lower (Kd.R_new' ho0 (Kd.R_lt (bC_ HO331))) (zT (bB_ HB))); have n4_ := zA (zU (g := gb326) (o := .cells #[.int .i64 t315, .int .i64 t316, .slice Ao16 t317.length co16] 26 (0, 0)) (bA_ BK326) hb); have n5_ := zA (zU (g := gb327) (o := .cells #[.int .i64 t320, .int .i64 t321, .slice Ao18 t322.length co18] 26 (0, 0)) (bA_ BK327) hb); have n6_ := zA (below_step (bB_ HB) hb); clear HO319; clear HO324; clear HO331; clear BK326; clear BK327; clear HB; have HO319 := n0_; have HO324 := n1_; have HO331 := n2_; have HO335 := n3_; have BK326 := n4_; have BK327 := n5_; have HB := n6_; clear n0_ n1_ n2_ n3_ n4_ n5_ n6_; (try clear hb); (try clear hb2); (try clear hk); (try clear hi); (try clear ho0)))
    (try simp only [Act.put, List.setIfInBounds_toArray, List.set_cons_zero, List.set_cons_succ])
    go_cut [59] (fun v59 wc => ∃ (kq : Nat) (x59_9 : Bool), v59 = .bool x59_9 ∧ Aside0 (laws_FnContour.j1 kq t328 t329 t332 x59_9 t320 t321 t322 = some r) ∧ Aside0 (kq ≤ kj2) ∧ Aside0 (Kd.R k43 43 wc w.heap.size (fun _ => True) v330 t329) ∧ Aside0 (Kd.Q (Kd.int .i64) 3 wc w.heap.size (fun k_ => some k_ ≠ ((.slice Ao18 t322.length co18) : Value).ownBlock) (.slice Ao16 t317.length co16) t317) ∧ Aside0 (Kd.Q (Kd.int .i64) 3 wc w.heap.size (fun k_ => some k_ ≠ ((.slice Ao16 t317.length co16) : Value).ownBlock) (.slice Ao18 t322.length co18) t322) ∧ Aside0 (wc.heap[gb326]? = some (.cells #[.int .i64 t315, .int .i64 t316, (.slice Ao16 t317.length co16)] 26 (0, 0))) ∧ Aside0 (wc.heap[gb327]? = some (.cells #[.int .i64 t320, .int .i64 t321, (.slice Ao18 t322.length co18)] 26 (0, 0))) ∧ Aside0 (Below w.heap.size w wc))
    case first =>
     have H := HC10.out
     clear HC10
     by_cases c22 : t332 = t336
     ·rw [if_pos c22] at H
      have c22b0 : (t332 == t336) = true := beq_iff_eq.mpr c22
      have c22b1 : (t332 != t336) = false := bne_eq_false_iff_eq.mpr c22
      clear c22
      (first | rw [c22b0] | (simp only [i64_w, i32_w]; rw [c22b0]) | skip)
      replace H := Option.bind_eq_some_iff.mp H
      obtain ⟨t337, A230, H⟩ := H
      replace H : (laws_FnContour.j1 kj2 t328 t329 t332 (!t337) t320 t321 t322) = some r := H
      have A23 := zA A230
      clear A230
      have H' := zA H
      clear H
      obtain ⟨Ao24, co24, eo24⟩ := Kd.R_slice HO331.out
      subst eo24
      obtain ⟨Ao25, co25, eo25⟩ := Kd.R_slice HO335.out
      subst eo25
      go_wp2_with (first | (go_at_call 23; (with_reducible refine (laws_samePoints.calls kj2 _ _ t329 _ _ t333 t337 _ ?side1 ?side2 ?side3 ?side4 A23.out).mono ?_); (case side1 => repeat (first | exact (zK HO331.out).2.2 | (with_reducible refine zI ?_ _) | (with_reducible refine zH ?_ _) | (with_reducible refine zJ ?_))); (case side2 => exact (zK HO331.out).2.1); (case side3 => repeat (first | exact (zK HO335.out).2.2 | (with_reducible refine zI ?_ _) | (with_reducible refine zH ?_ _) | (with_reducible refine zJ ?_))); (case side4 => exact (zK HO335.out).2.1); rintro e w' ⟨rfl, ⟨nd, rfl⟩⟩))
      go_meet
      case rel => exact ⟨_, (!t337), (by first | rfl | (simp; done) | (simp [*]; done)), H', ⟨by have := HJ2.out; first | omega | exact Nat.le_refl _⟩, ⟨by (with_reducible repeat (first | apply zF | apply zE | apply zG)); exact Kd.R_mono HO331.out (fun _ hk => trivial)⟩, ⟨by (with_reducible repeat (first | apply Kd.Q_alloc | apply Kd.Q_drewN | apply Kd.Q_drew)); exact HO319.out⟩, ⟨by (with_reducible repeat (first | apply Kd.Q_alloc | apply Kd.Q_drewN | apply Kd.Q_drew)); exact HO324.out⟩, ⟨bA_ BK326⟩, ⟨bA_ BK327⟩, ⟨bB_ HB⟩⟩
     ·rw [if_neg c22] at H
      have c22b0 : (t332 == t336) = false := beq_eq_false_iff_ne.mpr c22
      have c22b1 : (t332 != t336) = true := bne_iff_ne.mpr c22
      (first | rw [c22b0] | (simp only [i64_w, i32_w]; rw [c22b0]) | skip)
      have H' := zA H
      clear H
      go_wp2
      go_meet
      case rel => exact ⟨_, (true), (by first | rfl | (simp; done) | (simp [*]; done)), H', ⟨by have := HJ2.out; first | omega | exact Nat.le_refl _⟩, ⟨by (with_reducible repeat (first | apply zF | apply zE | apply zG)); exact Kd.R_mono HO331.out (fun _ hk => trivial)⟩, ⟨by (with_reducible repeat (first | apply Kd.Q_alloc | apply Kd.Q_drewN | apply Kd.Q_drew)); exact HO319.out⟩, ⟨by (with_reducible repeat (first | apply Kd.Q_alloc | apply Kd.Q_drewN | apply Kd.Q_drew)); exact HO324.out⟩, ⟨bA_ BK326⟩, ⟨bA_ BK327⟩, ⟨bB_ HB⟩⟩
    case rest =>
     clear HC10
     try clear c1
     try clear c2
     try clear p2
     try clear c4
     try clear c4b0
     try clear c4b1
     try clear c5
     try clear c14
     try clear c16
     try clear c17
     try clear c21
     try clear c22
     try clear c22b0
     try clear c22b1
     try clear hcz15_0
     try clear hcz15_1
     try clear hcz15_2
     try clear hcz17_0
     try clear hcz17_1
     try clear hcz17_2
     try clear hcz20_0
     try clear hcz20_1
     try clear hcz20_2
     try clear hfz15_0
     try clear hfz15_1
     try clear hfz15_2
     try clear hfz17_0
     try clear hfz17_1
     try clear hfz17_2
     try clear hfz20_0
     try clear hfz20_1
     try clear hfz20_2
     try clear p2
     obtain ⟨kq, x59_9, rfl, HA, HJ9, HO_9, HO_327002, HO_328002, BK326, BK327, HB⟩ := hcut
     cases kq with
     | zero => exact absurd HA.out (by simp [laws_FnContour.j1])
     | succ kj9 =>
      have H := HA.out
      clear HA
      simp only [laws_FnContour.j1] at H
      by_cases c26 : x59_9 = true
      ·subst c26
       have H1 : (some false) = some r := by rw [if_pos rfl] at H; exact H
       clear H
       have H := H1
       clear H1
       obtain rfl := Option.some.inj H
       go_wp2
       go_ret
       exact ⟨by first | rfl | (simp [errW_none, errW_some] <;> rfl) | (simp [*, errW_none, errW_some] <;> rfl), bB_ HB⟩
      ·replace c26 := Bool.eq_false_iff.mpr c26
       subst c26
       have H1 : (if t332 = 0 then (laws_FnContour.l0 kj9 t328 t329 0 0 t320 t321 t322) else (some ((t329.length : Int) == 0))) = some r := by rw [if_neg (show ¬ (false = true) by decide)] at H; exact H
       clear H
       have H := H1
       clear H1
       by_cases c27 : t332 = 0
       ·rw [if_pos c27] at H
        have c27b0 : (t332 == 0) = true := beq_iff_eq.mpr c27
        have c27b1 : (t332 != 0) = false := bne_eq_false_iff_eq.mpr c27
        clear c27
        have H' := zA H
        clear H
        go_wp2
        go_loopg [13, 14] kj9 (fun kq v13 v14 w' => ∃ (x13_3 : Int) (x14_3 : Int), v13 = .int .i64 x13_3 ∧ v14 = .int .i64 x14_3 ∧ Aside0 (laws_FnContour.l0 kq t328 t329 x13_3 x14_3 t320 t321 t322 = some r) ∧ Aside0 (kq ≤ kj9) ∧ Aside0 (Kd.R k43 43 w' w.heap.size (fun _ => True) v330 t329) ∧ Aside0 (Kd.Q (Kd.int .i64) 3 w' w.heap.size (fun k_ => some k_ ≠ ((.slice Ao18 t322.length co18) : Value).ownBlock) (.slice Ao16 t317.length co16) t317) ∧ Aside0 (Kd.Q (Kd.int .i64) 3 w' w.heap.size (fun k_ => some k_ ≠ ((.slice Ao16 t317.length co16) : Value).ownBlock) (.slice Ao18 t322.length co18) t322) ∧ Aside0 (w'.heap[gb326]? = some (.cells #[.int .i64 t315, .int .i64 t316, (.slice Ao16 t317.length co16)] 26 (0, 0))) ∧ Aside0 (w'.heap[gb327]? = some (.cells #[.int .i64 t320, .int .i64 t321, (.slice Ao18 t322.length co18)] 26 (0, 0))) ∧ Aside0 (Below w.heap.size w w'))
        case atStart => exact ⟨(0), (0), (by first | rfl | (simp; done) | (simp [*]; done)), (by first | rfl | (simp; done) | (simp [*]; done)), H', ⟨Nat.le_refl _⟩, ⟨bC_ HO_9⟩, ⟨by (with_reducible repeat (first | apply Kd.Q_alloc | apply Kd.Q_drewN | apply Kd.Q_drew)); exact HO_327002.out⟩, ⟨by (with_reducible repeat (first | apply Kd.Q_alloc | apply Kd.Q_drewN | apply Kd.Q_drew)); exact HO_328002.out⟩, ⟨bA_ BK326⟩, ⟨bA_ BK327⟩, ⟨bB_ HB⟩⟩
        case round =>
         clear H'
         try clear c1
         try clear c2
         try clear p2
         try clear c4
         try clear c4b0
         try clear c4b1
         try clear c5
         try clear c14
         try clear c16
         try clear c17
         try clear c21
         try clear c22
         try clear c22b0
         try clear c22b1
         try clear c26
         try clear c27
         try clear c27b0
         try clear c27b1
         try clear hcz15_0
         try clear hcz15_1
         try clear hcz15_2
         try clear hcz17_0
         try clear hcz17_1
         try clear hcz17_2
         try clear hcz20_0
         try clear hcz20_1
         try clear hcz20_2
         try clear hfz15_0
         try clear hfz15_1
         try clear hfz15_2
         try clear hfz17_0
         try clear hfz17_1
         try clear hfz17_2
         try clear hfz20_0
         try clear hfz20_1
         try clear hfz20_2
         try clear p2
         obtain ⟨x13_3, x14_3, rfl, rfl, HA, HK3, HO_9, HO_327002, HO_328002, BK326, BK327, HB⟩ := hrel
         cases gk with
         | zero => exact absurd HA.out (by simp [laws_FnContour.l0])
         | succ k3 =>
          have H := HA.out
          clear HA
          simp only [laws_FnContour.l0] at H
          by_cases c28 : x14_3 < (t329.length : Int)
          ·rw [if_pos c28] at H
           have c28b0 : decide (x14_3 < (t329.length : Int)) = true := decide_eq_true c28
           clear c28
           by_cases c29 : 0 ≤ x14_3
           ·rw [if_pos c29] at H
            have c29b0 : decide (0 ≤ x14_3) = true := decide_eq_true c29
            clear c29
            by_cases c30 : (t329.length : Int) = 0
            ·rw [if_pos c30] at H
             exact absurd H (by simp)
            ·rw [if_neg c30] at H
             have c30b0 : ((t329.length : Int) == 0) = false := beq_eq_false_iff_ne.mpr c30
             have c30b1 : ((t329.length : Int) != 0) = true := bne_iff_ne.mpr c30
             have c30b2 : ¬ (t329 = []) := fun h_ => c30 (by rw [h_]; rfl)
             obtain ⟨ji31, hji31⟩ : ∃ j_ : Int, (Int.tmod (wrap64 (x14_3 + 1)) (t329.length : Int)) = j_ := ⟨_, rfl⟩
             replace H : (if 0 ≤ (ji31) then (if (ji31) < (t329.length : Int) then ((laws_sign.f (wrap64 (((rd_T43 t329 (ji31)).f0) - ((rd_T43 t329 x14_3).f0)))).bind fun t342 => ((laws_sign.f (wrap64 (((rd_T43 t329 (ji31)).f1) - ((rd_T43 t329 x14_3).f1)))).bind fun t343 => ((laws_abs.f t342).bind fun t344 => ((laws_abs.f t343).bind fun t345 => (if (wrap64 (t344 + t345)) = 1 then (laws_FnContour.l1 k3 t328 t329 (wrap64 (x13_3 + (wrap64 ((wrap64 (((rd_T43 t329 x14_3).f0) * ((rd_T43 t329 (ji31)).f1))) - (wrap64 (((rd_T43 t329 x14_3).f1) * ((rd_T43 t329 (ji31)).f0))))))) x14_3 t342 t343 t320 t321 t322 ((rd_T43 t329 x14_3).f0) ((rd_T43 t329 x14_3).f1) ((rd_T43 t329 (ji31)).f0) ((rd_T43 t329 (ji31)).f1)) else (some false)))))) else (none)) else (none)) = some r := by first | (rw [hji31] at H; exact H) | (simp only [hji31] at H ⊢; exact H)
             by_cases c32 : 0 ≤ (ji31)
             ·rw [if_pos c32] at H
              have c32b0 : decide (0 ≤ (ji31)) = true := decide_eq_true c32
              clear c32
              by_cases c33 : (ji31) < (t329.length : Int)
              ·rw [if_pos c33] at H
               have c33b0 : decide ((ji31) < (t329.length : Int)) = true := decide_eq_true c33
               clear c33
               replace H := Option.bind_eq_some_iff.mp H
               obtain ⟨t342, A340, H⟩ := H
               replace H : ((laws_sign.f (wrap64 (((rd_T43 t329 (ji31)).f1) - ((rd_T43 t329 x14_3).f1)))).bind fun t343 => ((laws_abs.f t342).bind fun t344 => ((laws_abs.f t343).bind fun t345 => (if (wrap64 (t344 + t345)) = 1 then (laws_FnContour.l1 k3 t328 t329 (wrap64 (x13_3 + (wrap64 ((wrap64 (((rd_T43 t329 x14_3).f0) * ((rd_T43 t329 (ji31)).f1))) - (wrap64 (((rd_T43 t329 x14_3).f1) * ((rd_T43 t329 (ji31)).f0))))))) x14_3 t342 t343 t320 t321 t322 ((rd_T43 t329 x14_3).f0) ((rd_T43 t329 x14_3).f1) ((rd_T43 t329 (ji31)).f0) ((rd_T43 t329 (ji31)).f1)) else (some false))))) = some r := H
               have A34 := zA A340
               clear A340
               replace H := Option.bind_eq_some_iff.mp H
               obtain ⟨t343, A350, H⟩ := H
               replace H : ((laws_abs.f t342).bind fun t344 => ((laws_abs.f t343).bind fun t345 => (if (wrap64 (t344 + t345)) = 1 then (laws_FnContour.l1 k3 t328 t329 (wrap64 (x13_3 + (wrap64 ((wrap64 (((rd_T43 t329 x14_3).f0) * ((rd_T43 t329 (ji31)).f1))) - (wrap64 (((rd_T43 t329 x14_3).f1) * ((rd_T43 t329 (ji31)).f0))))))) x14_3 t342 t343 t320 t321 t322 ((rd_T43 t329 x14_3).f0) ((rd_T43 t329 x14_3).f1) ((rd_T43 t329 (ji31)).f0) ((rd_T43 t329 (ji31)).f1)) else (some false)))) = some r := H
               have A35 := zA A350
               clear A350
               replace H := Option.bind_eq_some_iff.mp H
               obtain ⟨t344, A360, H⟩ := H
               replace H : ((laws_abs.f t343).bind fun t345 => (if (wrap64 (t344 + t345)) = 1 then (laws_FnContour.l1 k3 t328 t329 (wrap64 (x13_3 + (wrap64 ((wrap64 (((rd_T43 t329 x14_3).f0) * ((rd_T43 t329 (ji31)).f1))) - (wrap64 (((rd_T43 t329 x14_3).f1) * ((rd_T43 t329 (ji31)).f0))))))) x14_3 t342 t343 t320 t321 t322 ((rd_T43 t329 x14_3).f0) ((rd_T43 t329 x14_3).f1) ((rd_T43 t329 (ji31)).f0) ((rd_T43 t329 (ji31)).f1)) else (some false))) = some r := H
               have A36 := zA A360
               clear A360
               replace H := Option.bind_eq_some_iff.mp H
               obtain ⟨t345, A370, H⟩ := H
               replace H : (if (wrap64 (t344 + t345)) = 1 then (laws_FnContour.l1 k3 t328 t329 (wrap64 (x13_3 + (wrap64 ((wrap64 (((rd_T43 t329 x14_3).f0) * ((rd_T43 t329 (ji31)).f1))) - (wrap64 (((rd_T43 t329 x14_3).f1) * ((rd_T43 t329 (ji31)).f0))))))) x14_3 t342 t343 t320 t321 t322 ((rd_T43 t329 x14_3).f0) ((rd_T43 t329 x14_3).f1) ((rd_T43 t329 (ji31)).f0) ((rd_T43 t329 (ji31)).f1)) else (some false)) = some r := H
               have A37 := zA A370
               clear A370
               by_cases c38 : (wrap64 (t344 + t345)) = 1
               ·rw [if_pos c38] at H
                have c38b0 : ((wrap64 (t344 + t345)) == 1) = true := beq_iff_eq.mpr c38
                have c38b1 : ((wrap64 (t344 + t345)) != 1) = false := bne_eq_false_iff_eq.mpr c38
                clear c38
                have H' := zA H
                clear H
                obtain ⟨Ao39, co39, eo39⟩ := Kd.R_slice HO_9.out
                subst eo39
                have p338 : 0 ≤ (x14_3 : Int) := of_decide_eq_true (by first | (with_reducible assumption) | assumption)
                have q338 : x14_3 < (t329.length : Int) := of_decide_eq_true (by first | (with_reducible assumption) | assumption)
                obtain ⟨ad338, e338, hx338_0, hx338_1⟩ := at_T43 (zK HO_9.out).2.2 x14_3 p338 q338
                cases e338
                replace p338 := eq_true p338
                replace q338 := eq_true q338
                go_wp2_with (first | ((with_reducible refine gate_dst (N := 15) rfl ?_); (try (refine gate_guard (by rfl) ?_; dsimp only)); refine box_event ?hg (N := 15) ?hd (cs := #[.int .i64 0, .int .i64 0]) (t := 43) ?hr ?_; (case hd => rfl); (case hg => rfl); (case hr => first | (go_simp; done) | (go_simp; rfl)); intro gb339 hg w40 hbox hb; have n0_ := zA (zL (Kd.R_elderB (bC_ HO_9) gb339 (Nat.le_of_eq hg.symm)) hb); have n1_ := zA (Kd.Q_below (by (with_reducible repeat (first | apply Kd.Q_alloc | apply Kd.Q_drewN | apply Kd.Q_drew)); exact HO_327002.out) hb); have n2_ := zA (Kd.Q_below (by (with_reducible repeat (first | apply Kd.Q_alloc | apply Kd.Q_drewN | apply Kd.Q_drew)); exact HO_328002.out) hb); have n3_ := zA (zU (g := gb326) (o := .cells #[.int .i64 t315, .int .i64 t316, .slice Ao16 t317.length co16] 26 (0, 0)) (bA_ BK326) hb); have n4_ := zA (zU (g := gb327) (o := .cells #[.int .i64 t320, .int .i64 t321, .slice Ao18 t322.length co18] 26 (0, 0)) (bA_ BK327) hb); have n5_ := zA (below_step (bB_ HB) hb); have n6_ := zA (hbox); have n7_ := zA ((by rw [hg]; exact (zT (bB_ HB)) : w.heap.size ≤ gb339)); have n8_ := zA ((by rw [hg]; exact (zT (bB_ HB)) : w.heap.size ≤ gb339)); have n9_ := zA ((by rw [hg]; exact Nat.ne_of_lt (blk_lt (g := gb326) (o := .cells #[.int .i64 t315, .int .i64 t316, .slice Ao16 t317.length co16] 26 (0, 0)) (bA_ BK326)) : gb326 ≠ gb339)); have n10_ := zA ((by rw [hg]; exact Nat.ne_of_gt (blk_lt (g := gb326) (o := .cells #[.int .i64 t315, .int .i64 t316, .slice Ao16 t317.length co16] 26 (0, 0)) (bA_ BK326)) : gb339 ≠ gb326)); have n11_ := zA ((by rw [hg]; exact Nat.ne_of_lt (blk_lt (g := gb327) (o := .cells #[.int .i64 t320, .int .i64 t321, .slice Ao18 t322.length co18] 26 (0, 0)) (bA_ BK327)) : gb327 ≠ gb339)); have n12_ := zA ((by rw [hg]; exact Nat.ne_of_gt (blk_lt (g := gb327) (o := .cells #[.int .i64 t320, .int .i64 t321, .slice Ao18 t322.length co18] 26 (0, 0)) (bA_ BK327)) : gb339 ≠ gb327)); clear HO_9; clear HO_327002; clear HO_328002; clear BK326; clear BK327; clear HB; have HO_9 := n0_; have HO_327002 := n1_; have HO_328002 := n2_; have BK326 := n3_; have BK327 := n4_; have HB := n5_; have BK339 := n6_; have GW339 := n7_; have GE339 := n8_; have NB326_339 := n9_; have NB339_326 := n10_; have NB327_339 := n11_; have NB339_327 := n12_; clear n0_ n1_ n2_ n3_ n4_ n5_ n6_ n7_ n8_ n9_ n10_ n11_ n12_; clear hb hbox hg; have hnb41 := NB339_326.out; have hnc41 := NB326_339.out; have hnb42 := NB339_327.out; have hnc42 := NB327_339.out; have hcz43_0 : w40.cell? ⟨gb339, 0, none⟩ = some (.int .i64 0) := (blk_cell BK339.out 0).trans rfl; have hcz43_1 : w40.cell? ⟨gb339, 1, none⟩ = some (.int .i64 0) := (blk_cell BK339.out 1).trans rfl; have hfz43_0 := blk_frozen BK339.out 0; have hfz43_1 := blk_frozen BK339.out 1; have p340 : 0 ≤ ((ji31) : Int) := of_decide_eq_true (by first | (with_reducible assumption) | assumption); have q340 : (ji31) < (t329.length : Int) := of_decide_eq_true (by first | (with_reducible assumption) | assumption); obtain ⟨ad340, e340, hx340_0, hx340_1⟩ := at_T43 (zK HO_9.out).2.2 (ji31) p340 q340; obtain rfl : ad338 = ad340 := (by injection e340); have hn340_0 : ad338.block ≠ gb339 := Kd.own_blk (Kd.R_away HO_9.out (fun _ hk => hk.2)); have hn340_1 : ad338.block ≠ gb339 := Kd.own_blk (Kd.R_away HO_9.out (fun _ hk => hk.2)); replace hx340_0 := (cell_far (p := ⟨gb339, 0, none⟩) (by first | (rw [add_block]; exact hn340_0) | (show (Addr.add _ _).block ≠ _; rw [add_block]; exact hn340_0) | exact hn340_0) (.int .i64 ((rd_T43 t329 x14_3).f0))).trans hx340_0; replace hx340_1 := (cell_far (p := ⟨gb339, 0, none⟩) (by first | (rw [add_block]; exact hn340_0) | (show (Addr.add _ _).block ≠ _; rw [add_block]; exact hn340_0) | exact hn340_0) (.int .i64 ((rd_T43 t329 x14_3).f0))).trans hx340_1; replace hx340_0 := (cell_far (p := ⟨gb339, 1, none⟩) (by first | (rw [add_block]; exact hn340_1) | (show (Addr.add _ _).block ≠ _; rw [add_block]; exact hn340_1) | exact hn340_1) (.int .i64 ((rd_T43 t329 x14_3).f1))).trans hx340_0; replace hx340_1 := (cell_far (p := ⟨gb339, 1, none⟩) (by first | (rw [add_block]; exact hn340_1) | (show (Addr.add _ _).block ≠ _; rw [add_block]; exact hn340_1) | exact hn340_1) (.int .i64 ((rd_T43 t329 x14_3).f1))).trans hx340_1; clear hn340_0; clear hn340_1; replace p340 := eq_true p340; replace q340 := eq_true q340) | ((with_reducible refine gate_dst (N := 16) rfl ?_); (try (refine gate_guard (by rfl) ?_; dsimp only)); refine box_event ?hg (N := 16) ?hd (cs := #[.int .i64 0, .int .i64 0]) (t := 43) ?hr ?_; (case hd => rfl); (case hg => rfl); (case hr => first | (go_simp; done) | (go_simp; rfl)); intro gb341 hg w44 hbox hb; have n0_ := zA (zL (Kd.R_elderB (by (with_reducible repeat (first | apply zF | apply zE | apply zG)); exact (Kd.R_mono (Kd.R_far (p := ⟨gb339, 1, none⟩) (Kd.R_far (p := ⟨gb339, 0, none⟩) (Kd.R_mono HO_9.out (fun k_ hk => (⟨hk, hk.2⟩ : _ ∧ k_ ≠ gb339))) (fun _ hk => hk.2) (.int .i64 ((rd_T43 t329 x14_3).f0))) (fun _ hk => hk.2) (.int .i64 ((rd_T43 t329 x14_3).f1))) (fun _ h_ => h_.1))) gb341 (Nat.le_of_eq hg.symm)) hb); have n1_ := zA (Kd.Q_below (by (with_reducible repeat (first | apply Kd.Q_alloc | apply Kd.Q_drewN | apply Kd.Q_drew)); exact (Kd.Q_mono (Kd.Q_far (p := ⟨gb339, 1, none⟩) (Kd.Q_far (p := ⟨gb339, 0, none⟩) (Kd.Q_types HO_327002.out BK339.out (by decide)) (fun _ hk => hk.2) (.int .i64 ((rd_T43 t329 x14_3).f0))) (fun _ hk => hk.2) (.int .i64 ((rd_T43 t329 x14_3).f1))) (fun _ h_ => h_.1))) hb); have n2_ := zA (Kd.Q_below (by (with_reducible repeat (first | apply Kd.Q_alloc | apply Kd.Q_drewN | apply Kd.Q_drew)); exact (Kd.Q_mono (Kd.Q_far (p := ⟨gb339, 1, none⟩) (Kd.Q_far (p := ⟨gb339, 0, none⟩) (Kd.Q_types HO_328002.out BK339.out (by decide)) (fun _ hk => hk.2) (.int .i64 ((rd_T43 t329 x14_3).f0))) (fun _ hk => hk.2) (.int .i64 ((rd_T43 t329 x14_3).f1))) (fun _ h_ => h_.1))) hb); have n3_ := zA (zU (g := gb326) (o := .cells #[.int .i64 t315, .int .i64 t316, .slice Ao16 t317.length co16] 26 (0, 0)) (bD_ BK326) hb); have n4_ := zA (zU (g := gb327) (o := .cells #[.int .i64 t320, .int .i64 t321, .slice Ao18 t322.length co18] 26 (0, 0)) (bD_ BK327) hb); have n5_ := zA (zU (g := gb339) (o := .cells #[.int .i64 ((rd_T43 t329 x14_3).f0), .int .i64 ((rd_T43 t329 x14_3).f1)] 43 (0, 0)) (by (with_reducible repeat (first | refine zM ?_ _ | refine zN ?_ | refine zO ?_ _)); refine blk_put (cs := #[.int .i64 ((rd_T43 t329 x14_3).f0), .int .i64 0]) ?_ 1 _ rfl; (with_reducible repeat (first | refine zM ?_ _ | refine zN ?_ | refine zO ?_ _)); refine blk_put (cs := #[.int .i64 0, .int .i64 0]) ?_ 0 _ rfl; (with_reducible repeat (first | refine zM ?_ _ | refine zN ?_ | refine zO ?_ _)); exact BK339.out) hb); have n6_ := zA (below_step (bB_ HB) hb); have n7_ := zA (hbox); have n8_ := zA ((by rw [hg]; exact (zT (bB_ HB)) : w.heap.size ≤ gb341)); have n9_ := zA ((by rw [hg]; exact (zT (bB_ HB)) : w.heap.size ≤ gb341)); have n10_ := zA ((by rw [hg]; exact Nat.ne_of_lt (blk_lt (g := gb326) (o := .cells #[.int .i64 t315, .int .i64 t316, .slice Ao16 t317.length co16] 26 (0, 0)) (bD_ BK326)) : gb326 ≠ gb341)); have n11_ := zA ((by rw [hg]; exact Nat.ne_of_gt (blk_lt (g := gb326) (o := .cells #[.int .i64 t315, .int .i64 t316, .slice Ao16 t317.length co16] 26 (0, 0)) (bD_ BK326)) : gb341 ≠ gb326)); have n12_ := zA ((by rw [hg]; exact Nat.ne_of_lt (blk_lt (g := gb327) (o := .cells #[.int .i64 t320, .int .i64 t321, .slice Ao18 t322.length co18] 26 (0, 0)) (bD_ BK327)) : gb327 ≠ gb341)); have n13_ := zA ((by rw [hg]; exact Nat.ne_of_gt (blk_lt (g := gb327) (o := .cells #[.int .i64 t320, .int .i64 t321, .slice Ao18 t322.length co18] 26 (0, 0)) (bD_ BK327)) : gb341 ≠ gb327)); have n14_ := zA ((by rw [hg]; exact Nat.ne_of_lt (blk_lt (g := gb339) (o := .cells #[.int .i64 ((rd_T43 t329 x14_3).f0), .int .i64 ((rd_T43 t329 x14_3).f1)] 43 (0, 0)) (by (with_reducible repeat (first | refine zM ?_ _ | refine zN ?_ | refine zO ?_ _)); refine blk_put (cs := #[.int .i64 ((rd_T43 t329 x14_3).f0), .int .i64 0]) ?_ 1 _ rfl; (with_reducible repeat (first | refine zM ?_ _ | refine zN ?_ | refine zO ?_ _)); refine blk_put (cs := #[.int .i64 0, .int .i64 0]) ?_ 0 _ rfl; (with_reducible repeat (first | refine zM ?_ _ | refine zN ?_ | refine zO ?_ _)); exact BK339.out)) : gb339 ≠ gb341)); have n15_ := zA ((by rw [hg]; exact Nat.ne_of_gt (blk_lt (g := gb339) (o := .cells #[.int .i64 ((rd_T43 t329 x14_3).f0), .int .i64 ((rd_T43 t329 x14_3).f1)] 43 (0, 0)) (by (with_reducible repeat (first | refine zM ?_ _ | refine zN ?_ | refine zO ?_ _)); refine blk_put (cs := #[.int .i64 ((rd_T43 t329 x14_3).f0), .int .i64 0]) ?_ 1 _ rfl; (with_reducible repeat (first | refine zM ?_ _ | refine zN ?_ | refine zO ?_ _)); refine blk_put (cs := #[.int .i64 0, .int .i64 0]) ?_ 0 _ rfl; (with_reducible repeat (first | refine zM ?_ _ | refine zN ?_ | refine zO ?_ _)); exact BK339.out)) : gb341 ≠ gb339)); clear HO_9; clear HO_327002; clear HO_328002; clear BK326; clear BK327; clear BK339; clear HB; have HO_9 := n0_; have HO_327002 := n1_; have HO_328002 := n2_; have BK326 := n3_; have BK327 := n4_; have BK339 := n5_; have HB := n6_; have BK341 := n7_; have GW341 := n8_; have GE341 := n9_; have NB326_341 := n10_; have NB341_326 := n11_; have NB327_341 := n12_; have NB341_327 := n13_; have NB339_341 := n14_; have NB341_339 := n15_; clear n0_ n1_ n2_ n3_ n4_ n5_ n6_ n7_ n8_ n9_ n10_ n11_ n12_ n13_ n14_ n15_; clear hb hbox hg; have hnb45 := NB341_326.out; have hnc45 := NB326_341.out; have hnb46 := NB341_327.out; have hnc46 := NB327_341.out; have hnb47 := NB341_339.out; have hnc47 := NB339_341.out; have hcz48_0 : w44.cell? ⟨gb341, 0, none⟩ = some (.int .i64 0) := (blk_cell BK341.out 0).trans rfl; have hcz48_1 : w44.cell? ⟨gb341, 1, none⟩ = some (.int .i64 0) := (blk_cell BK341.out 1).trans rfl; have hfz48_0 := blk_frozen BK341.out 0; have hfz48_1 := blk_frozen BK341.out 1; have hcz49_0 : w44.cell? ⟨gb339, 0, none⟩ = some (.int .i64 ((rd_T43 t329 x14_3).f0)) := (blk_cell BK339.out 0).trans rfl; have hcz49_1 : w44.cell? ⟨gb339, 1, none⟩ = some (.int .i64 ((rd_T43 t329 x14_3).f1)) := (blk_cell BK339.out 1).trans rfl; have hfz49_0 := blk_frozen BK339.out 0; have hfz49_1 := blk_frozen BK339.out 1) | ((with_reducible refine gate_callee (f := 24) rfl ?_); refine goesL_ (some 101) rfl rfl Try.func24 (by kernel_rfl) rfl #[.int .i64 (wrap64 (((rd_T43 t329 (ji31)).f0) - ((rd_T43 t329 x14_3).f0)))] rfl (by (try simp only [List.map_toArray, List.map_cons, List.map_nil]); first | done | (simp only [hji31]; rfl) | rfl | (simp only [List.length_drop, List.length_take]; rfl)) ?_; (with_reducible refine (laws_sign.calls (wrap64 (((rd_T43 t329 (ji31)).f0) - ((rd_T43 t329 x14_3).f0))) t342 _ A34.out).mono ?_); rintro e w' ⟨rfl, ⟨nd, rfl⟩⟩; refine ⟨_, rfl, ?_⟩) | ((with_reducible refine gate_callee (f := 24) rfl ?_); refine goesL_ (some 107) rfl rfl Try.func24 (by kernel_rfl) rfl #[.int .i64 (wrap64 (((rd_T43 t329 (ji31)).f1) - ((rd_T43 t329 x14_3).f1)))] rfl (by (try simp only [List.map_toArray, List.map_cons, List.map_nil]); first | done | (simp only [hji31]; rfl) | rfl | (simp only [List.length_drop, List.length_take]; rfl)) ?_; (with_reducible refine (laws_sign.calls (wrap64 (((rd_T43 t329 (ji31)).f1) - ((rd_T43 t329 x14_3).f1))) t343 _ A35.out).mono ?_); rintro e w' ⟨rfl, ⟨nd, rfl⟩⟩; refine ⟨_, rfl, ?_⟩) | ((with_reducible refine gate_callee (f := 25) rfl ?_); refine goesL_ (some 109) rfl rfl Try.func25 (by kernel_rfl) rfl #[.int .i64 t342] rfl (by (try simp only [List.map_toArray, List.map_cons, List.map_nil]); first | done | rfl | (simp only [List.length_drop, List.length_take]; rfl)) ?_; (with_reducible refine (laws_abs.calls t342 t344 _ A36.out).mono ?_); rintro e w' ⟨rfl, ⟨nd, rfl⟩⟩; refine ⟨_, rfl, ?_⟩) | ((with_reducible refine gate_callee (f := 25) rfl ?_); refine goesL_ (some 111) rfl rfl Try.func25 (by kernel_rfl) rfl #[.int .i64 t343] rfl (by (try simp only [List.map_toArray, List.map_cons, List.map_nil]); first | done | rfl | (simp only [List.length_drop, List.length_take]; rfl)) ?_; (with_reducible refine (laws_abs.calls t343 t345 _ A37.out).mono ?_); rintro e w' ⟨rfl, ⟨nd, rfl⟩⟩; refine ⟨_, rfl, ?_⟩))
                go_loopg [] k3 (fun kq w' => ∃ (x340000_4 : Int) (x340001_4 : Int), Aside0 (laws_FnContour.l1 kq t328 t329 (wrap64 (x13_3 + (wrap64 ((wrap64 (((rd_T43 t329 x14_3).f0) * ((rd_T43 t329 (ji31)).f1))) - (wrap64 (((rd_T43 t329 x14_3).f1) * ((rd_T43 t329 (ji31)).f0))))))) x14_3 t342 t343 t320 t321 t322 x340000_4 x340001_4 ((rd_T43 t329 (ji31)).f0) ((rd_T43 t329 (ji31)).f1) = some r) ∧ Aside0 (kq ≤ k3) ∧ Aside0 (Kd.R k43 43 w' w.heap.size (fun k_ => k_ ≠ gb339 ∧ k_ ≠ gb341) (.slice (some ad338) t329.length co39) t329) ∧ Aside0 (Kd.Q (Kd.int .i64) 3 w' w.heap.size (fun k_ => some k_ ≠ ((.slice Ao18 t322.length co18) : Value).ownBlock) (.slice Ao16 t317.length co16) t317) ∧ Aside0 (Kd.Q (Kd.int .i64) 3 w' w.heap.size (fun k_ => some k_ ≠ ((.slice Ao16 t317.length co16) : Value).ownBlock) (.slice Ao18 t322.length co18) t322) ∧ Aside0 (w'.heap[gb326]? = some (.cells #[.int .i64 t315, .int .i64 t316, (.slice Ao16 t317.length co16)] 26 (0, 0))) ∧ Aside0 (w'.heap[gb327]? = some (.cells #[.int .i64 t320, .int .i64 t321, (.slice Ao18 t322.length co18)] 26 (0, 0))) ∧ Aside0 (w'.heap[gb339]? = some (.cells #[.int .i64 x340000_4, .int .i64 x340001_4] 43 (0, 0))) ∧ Aside0 (w'.heap[gb341]? = some (.cells #[.int .i64 ((rd_T43 t329 (ji31)).f0), .int .i64 ((rd_T43 t329 (ji31)).f1)] 43 (0, 0))) ∧ Aside0 (Below w.heap.size w w'))
                case atStart => exact ⟨((rd_T43 t329 x14_3).f0), ((rd_T43 t329 x14_3).f1), H', ⟨Nat.le_refl _⟩, ⟨by (with_reducible repeat (first | apply zF | apply zE | apply zG)); exact Kd.R_mono (Kd.R_far (p := ⟨gb341, 1, none⟩) (Kd.R_far (p := ⟨gb341, 0, none⟩) (Kd.R_mono HO_9.out (fun k_ hk => (⟨hk, hk.2⟩ : _ ∧ k_ ≠ gb341))) (fun _ hk => hk.2) (.int .i64 ((rd_T43 t329 (ji31)).f0))) (fun _ hk => hk.2) (.int .i64 ((rd_T43 t329 (ji31)).f1))) (fun _ hk => ⟨hk.1.1.2, hk.1.2⟩)⟩, ⟨by (with_reducible repeat (first | apply Kd.Q_alloc | apply Kd.Q_drewN | apply Kd.Q_drew)); exact Kd.Q_mono (Kd.Q_far (p := ⟨gb341, 1, none⟩) (Kd.Q_far (p := ⟨gb341, 0, none⟩) (Kd.Q_types HO_327002.out BK341.out (by decide)) (fun _ hk => hk.2) (.int .i64 ((rd_T43 t329 (ji31)).f0))) (fun _ hk => hk.2) (.int .i64 ((rd_T43 t329 (ji31)).f1))) (fun _ hk => hk.1)⟩, ⟨by (with_reducible repeat (first | apply Kd.Q_alloc | apply Kd.Q_drewN | apply Kd.Q_drew)); exact Kd.Q_mono (Kd.Q_far (p := ⟨gb341, 1, none⟩) (Kd.Q_far (p := ⟨gb341, 0, none⟩) (Kd.Q_types HO_328002.out BK341.out (by decide)) (fun _ hk => hk.2) (.int .i64 ((rd_T43 t329 (ji31)).f0))) (fun _ hk => hk.2) (.int .i64 ((rd_T43 t329 (ji31)).f1))) (fun _ hk => hk.1)⟩, ⟨bD_ BK326⟩, ⟨bD_ BK327⟩, ⟨bD_ BK339⟩, ⟨by (with_reducible repeat (first | refine zM ?_ _ | refine zN ?_ | refine zO ?_ _)); refine blk_put (cs := #[.int .i64 ((rd_T43 t329 (ji31)).f0), .int .i64 0]) ?_ 1 _ rfl; (with_reducible repeat (first | refine zM ?_ _ | refine zN ?_ | refine zO ?_ _)); refine blk_put (cs := #[.int .i64 0, .int .i64 0]) ?_ 0 _ rfl; (with_reducible repeat (first | refine zM ?_ _ | refine zN ?_ | refine zO ?_ _)); exact BK341.out⟩, ⟨bB_ HB⟩⟩
                case round =>
                 clear H'
                 try clear c1
                 try clear c2
                 try clear p2
                 try clear c3
                 try clear p3
                 try clear q3
                 try clear hx3
                 try clear c4
                 try clear c4b0
                 try clear c4b1
                 try clear c5
                 try clear p6
                 try clear c14
                 try clear c16
                 try clear c17
                 try clear c21
                 try clear c22
                 try clear c22b0
                 try clear c22b1
                 try clear c24
                 try clear c25
                 try clear c26
                 try clear c27
                 try clear c27b0
                 try clear c27b1
                 try clear c28
                 try clear c28b0
                 try clear c29
                 try clear c29b0
                 try clear c30
                 try clear c30b0
                 try clear c30b1
                 try clear c30b2
                 try clear c32
                 try clear c32b0
                 try clear c33
                 try clear c33b0
                 try clear p33
                 try clear q33
                 try clear hx33
                 try clear p34
                 try clear q34
                 try clear hx34
                 try clear c38
                 try clear c38b0
                 try clear c38b1
                 try clear c41
                 try clear c42
                 try clear c45
                 try clear c46
                 try clear c47
                 try clear hcz15_0
                 try clear hcz15_1
                 try clear hcz15_2
                 try clear hcz17_0
                 try clear hcz17_1
                 try clear hcz17_2
                 try clear hcz20_0
                 try clear hcz20_1
                 try clear hcz20_2
                 try clear hcz43_0
                 try clear hcz43_1
                 try clear hcz48_0
                 try clear hcz48_1
                 try clear hcz49_0
                 try clear hcz49_1
                 try clear hfz15_0
                 try clear hfz15_1
                 try clear hfz15_2
                 try clear hfz17_0
                 try clear hfz17_1
                 try clear hfz17_2
                 try clear hfz20_0
                 try clear hfz20_1
                 try clear hfz20_2
                 try clear hfz43_0
                 try clear hfz43_1
                 try clear hfz48_0
                 try clear hfz48_1
                 try clear hfz49_0
                 try clear hfz49_1
                 try clear hx338_0
                 try clear hx338_1
                 try clear hx340_0
                 try clear hx340_1
                 try clear p2
                 try clear p338
                 try clear p340
                 try clear q338
                 try clear q340
                 obtain ⟨x340000_4, x340001_4, HA, HK4, HO_9, HO_327002, HO_328002, BK326, BK327, BK339, BK341, HB⟩ := hrel
                 cases gk with
                 | zero => exact absurd HA.out (by simp [laws_FnContour.l1])
                 | succ k4 =>
                  have H := HA.out
                  clear HA
                  simp only [laws_FnContour.l1] at H
                  by_cases c50 : (!(x340000_4 == ((rd_T43 t329 (ji31)).f0)) || (!(x340001_4 == ((rd_T43 t329 (ji31)).f1)))) = true
                  ·rw [if_pos c50] at H
                   have c50b0 : (!(x340000_4 == ((rd_T43 t329 (ji31)).f0)) || (!(x340001_4 == ((rd_T43 t329 (ji31)).f1)))) = true := c50
                   clear c50
                   obtain ⟨ji51, hji51⟩ : ∃ j_ : Int, (mn t342 0) = j_ := ⟨_, rfl⟩
                   replace H : ((laws_above.f t320 t321 t322 (wrap64 ((wrap64 (x340000_4 + (ji51))) + (mn (wrap64 (-t343)) 0))) (wrap64 ((wrap64 (x340001_4 + (mn t343 0))) + (ji51))) t328).bind fun t346 => (if t346 = true then ((laws_above.f t320 t321 t322 (wrap64 ((wrap64 (x340000_4 + (ji51))) + (mn t343 0))) (wrap64 ((wrap64 (x340001_4 + (mn t343 0))) + (mn (wrap64 (-t342)) 0))) t328).bind fun t347 => (if t347 = true then (some false) else (laws_FnContour.l1 k4 t328 t329 (wrap64 (x13_3 + (wrap64 ((wrap64 (((rd_T43 t329 x14_3).f0) * ((rd_T43 t329 (ji31)).f1))) - (wrap64 (((rd_T43 t329 x14_3).f1) * ((rd_T43 t329 (ji31)).f0))))))) x14_3 t342 t343 t320 t321 t322 (wrap64 (x340000_4 + t342)) (wrap64 (x340001_4 + t343)) ((rd_T43 t329 (ji31)).f0) ((rd_T43 t329 (ji31)).f1)))) else (some false))) = some r := by first | (rw [hji51] at H; exact H) | (simp only [hji51] at H ⊢; exact H)
                   have hji51_ : (if 0 < t342 then 0 else t342) = ji51 := hji51
                   obtain ⟨ji52, hji52⟩ : ∃ j_ : Int, (mn (wrap64 (-t343)) 0) = j_ := ⟨_, rfl⟩
                   replace H : ((laws_above.f t320 t321 t322 (wrap64 ((wrap64 (x340000_4 + (ji51))) + (ji52))) (wrap64 ((wrap64 (x340001_4 + (mn t343 0))) + (ji51))) t328).bind fun t346 => (if t346 = true then ((laws_above.f t320 t321 t322 (wrap64 ((wrap64 (x340000_4 + (ji51))) + (mn t343 0))) (wrap64 ((wrap64 (x340001_4 + (mn t343 0))) + (mn (wrap64 (-t342)) 0))) t328).bind fun t347 => (if t347 = true then (some false) else (laws_FnContour.l1 k4 t328 t329 (wrap64 (x13_3 + (wrap64 ((wrap64 (((rd_T43 t329 x14_3).f0) * ((rd_T43 t329 (ji31)).f1))) - (wrap64 (((rd_T43 t329 x14_3).f1) * ((rd_T43 t329 (ji31)).f0))))))) x14_3 t342 t343 t320 t321 t322 (wrap64 (x340000_4 + t342)) (wrap64 (x340001_4 + t343)) ((rd_T43 t329 (ji31)).f0) ((rd_T43 t329 (ji31)).f1)))) else (some false))) = some r := by first | (rw [hji52] at H; exact H) | (simp only [hji52] at H ⊢; exact H)
                   have hji52_ : (if 0 < (wrap64 (-t343)) then 0 else (wrap64 (-t343))) = ji52 := hji52
                   obtain ⟨ji53, hji53⟩ : ∃ j_ : Int, (mn t343 0) = j_ := ⟨_, rfl⟩
                   replace H : ((laws_above.f t320 t321 t322 (wrap64 ((wrap64 (x340000_4 + (ji51))) + (ji52))) (wrap64 ((wrap64 (x340001_4 + (ji53))) + (ji51))) t328).bind fun t346 => (if t346 = true then ((laws_above.f t320 t321 t322 (wrap64 ((wrap64 (x340000_4 + (ji51))) + (ji53))) (wrap64 ((wrap64 (x340001_4 + (ji53))) + (mn (wrap64 (-t342)) 0))) t328).bind fun t347 => (if t347 = true then (some false) else (laws_FnContour.l1 k4 t328 t329 (wrap64 (x13_3 + (wrap64 ((wrap64 (((rd_T43 t329 x14_3).f0) * ((rd_T43 t329 (ji31)).f1))) - (wrap64 (((rd_T43 t329 x14_3).f1) * ((rd_T43 t329 (ji31)).f0))))))) x14_3 t342 t343 t320 t321 t322 (wrap64 (x340000_4 + t342)) (wrap64 (x340001_4 + t343)) ((rd_T43 t329 (ji31)).f0) ((rd_T43 t329 (ji31)).f1)))) else (some false))) = some r := by first | (rw [hji53] at H; exact H) | (simp only [hji53] at H ⊢; exact H)
                   have hji53_ : (if 0 < t343 then 0 else t343) = ji53 := hji53
                   obtain ⟨ji58, hji58⟩ : ∃ j_ : Int, (mn (wrap64 (-t342)) 0) = j_ := ⟨_, rfl⟩
                   replace H : ((laws_above.f t320 t321 t322 (wrap64 ((wrap64 (x340000_4 + (ji51))) + (ji52))) (wrap64 ((wrap64 (x340001_4 + (ji53))) + (ji51))) t328).bind fun t346 => (if t346 = true then ((laws_above.f t320 t321 t322 (wrap64 ((wrap64 (x340000_4 + (ji51))) + (ji53))) (wrap64 ((wrap64 (x340001_4 + (ji53))) + (ji58))) t328).bind fun t347 => (if t347 = true then (some false) else (laws_FnContour.l1 k4 t328 t329 (wrap64 (x13_3 + (wrap64 ((wrap64 (((rd_T43 t329 x14_3).f0) * ((rd_T43 t329 (ji31)).f1))) - (wrap64 (((rd_T43 t329 x14_3).f1) * ((rd_T43 t329 (ji31)).f0))))))) x14_3 t342 t343 t320 t321 t322 (wrap64 (x340000_4 + t342)) (wrap64 (x340001_4 + t343)) ((rd_T43 t329 (ji31)).f0) ((rd_T43 t329 (ji31)).f1)))) else (some false))) = some r := by first | (rw [hji58] at H; exact H) | (simp only [hji58] at H ⊢; exact H)
                   have hji58_ : (if 0 < (wrap64 (-t342)) then 0 else (wrap64 (-t342))) = ji58 := hji58
                   replace H := Option.bind_eq_some_iff.mp H
                   obtain ⟨t346, A590, H⟩ := H
                   replace H : (if t346 = true then ((laws_above.f t320 t321 t322 (wrap64 ((wrap64 (x340000_4 + (ji51))) + (ji53))) (wrap64 ((wrap64 (x340001_4 + (ji53))) + (ji58))) t328).bind fun t347 => (if t347 = true then (some false) else (laws_FnContour.l1 k4 t328 t329 (wrap64 (x13_3 + (wrap64 ((wrap64 (((rd_T43 t329 x14_3).f0) * ((rd_T43 t329 (ji31)).f1))) - (wrap64 (((rd_T43 t329 x14_3).f1) * ((rd_T43 t329 (ji31)).f0))))))) x14_3 t342 t343 t320 t321 t322 (wrap64 (x340000_4 + t342)) (wrap64 (x340001_4 + t343)) ((rd_T43 t329 (ji31)).f0) ((rd_T43 t329 (ji31)).f1)))) else (some false)) = some r := H
                   have A59 := zA A590
                   clear A590
                   by_cases c60 : t346 = true
                   ·subst c60
                    have H1 : ((laws_above.f t320 t321 t322 (wrap64 ((wrap64 (x340000_4 + (ji51))) + (ji53))) (wrap64 ((wrap64 (x340001_4 + (ji53))) + (ji58))) t328).bind fun t347 => (if t347 = true then (some false) else (laws_FnContour.l1 k4 t328 t329 (wrap64 (x13_3 + (wrap64 ((wrap64 (((rd_T43 t329 x14_3).f0) * ((rd_T43 t329 (ji31)).f1))) - (wrap64 (((rd_T43 t329 x14_3).f1) * ((rd_T43 t329 (ji31)).f0))))))) x14_3 t342 t343 t320 t321 t322 (wrap64 (x340000_4 + t342)) (wrap64 (x340001_4 + t343)) ((rd_T43 t329 (ji31)).f0) ((rd_T43 t329 (ji31)).f1)))) = some r := by rw [if_pos rfl] at H; exact H
                    clear H
                    have H := H1
                    clear H1
                    replace H := Option.bind_eq_some_iff.mp H
                    obtain ⟨t347, A610, H⟩ := H
                    replace H : (if t347 = true then (some false) else (laws_FnContour.l1 k4 t328 t329 (wrap64 (x13_3 + (wrap64 ((wrap64 (((rd_T43 t329 x14_3).f0) * ((rd_T43 t329 (ji31)).f1))) - (wrap64 (((rd_T43 t329 x14_3).f1) * ((rd_T43 t329 (ji31)).f0))))))) x14_3 t342 t343 t320 t321 t322 (wrap64 (x340000_4 + t342)) (wrap64 (x340001_4 + t343)) ((rd_T43 t329 (ji31)).f0) ((rd_T43 t329 (ji31)).f1))) = some r := H
                    have A61 := zA A610
                    clear A610
                    by_cases c62 : t347 = true
                    ·subst c62
                     have H1 : (some false) = some r := by rw [if_pos rfl] at H; exact H
                     clear H
                     have H := H1
                     clear H1
                     obtain rfl := Option.some.inj H
                     have hnb63 := NB339_326.out
                     have hnc63 := NB326_339.out
                     have hnb64 := NB339_327.out
                     have hnc64 := NB327_339.out
                     have hnb65 := NB339_341.out
                     have hnc65 := NB341_339.out
                     have hcz66_0 : wr.cell? ⟨gb339, 0, none⟩ = some (.int .i64 x340000_4) := (blk_cell BK339.out 0).trans rfl
                     have hcz66_1 : wr.cell? ⟨gb339, 1, none⟩ = some (.int .i64 x340001_4) := (blk_cell BK339.out 1).trans rfl
                     have hfz66_0 := blk_frozen BK339.out 0
                     have hfz66_1 := blk_frozen BK339.out 1
                     have hnb67 := NB341_326.out
                     have hnc67 := NB326_341.out
                     have hnb68 := NB341_327.out
                     have hnc68 := NB327_341.out
                     have hcz69_0 : wr.cell? ⟨gb341, 0, none⟩ = some (.int .i64 ((rd_T43 t329 (ji31)).f0)) := (blk_cell BK341.out 0).trans rfl
                     have hcz69_1 : wr.cell? ⟨gb341, 1, none⟩ = some (.int .i64 ((rd_T43 t329 (ji31)).f1)) := (blk_cell BK341.out 1).trans rfl
                     have hfz69_0 := blk_frozen BK341.out 0
                     have hfz69_1 := blk_frozen BK341.out 1
                     have hnb70 := NB327_326.out
                     have hnc70 := NB326_327.out
                     have hcz71_0 : wr.cell? ⟨gb327, 0, none⟩ = some (.int .i64 t320) := (blk_cell BK327.out 0).trans rfl
                     have hcz71_1 : wr.cell? ⟨gb327, 1, none⟩ = some (.int .i64 t321) := (blk_cell BK327.out 1).trans rfl
                     have hcz71_2 : wr.cell? ⟨gb327, 2, none⟩ = some (.slice Ao18 t322.length co18) := (blk_cell BK327.out 2).trans rfl
                     have hfz71_0 := blk_frozen BK327.out 0
                     have hfz71_1 := blk_frozen BK327.out 1
                     have hfz71_2 := blk_frozen BK327.out 2
                     go_wp2_with (first | ((with_reducible refine gate_callee (f := 26) rfl ?_); refine goesL_ (some 155) rfl rfl Try.func26 (by kernel_rfl) rfl #[.agg #[.int .i64 t320, .int .i64 t321, .slice Ao18 t322.length co18], .int .i64 (wrap64 ((wrap64 (x340000_4 + (ji51))) + (ji52))), .int .i64 (wrap64 ((wrap64 (x340001_4 + (ji53))) + (ji51))), .int .i64 t328] rfl (by (try simp only [List.map_toArray, List.map_cons, List.map_nil]); first | done | (simp only [hji51, hji52, hji53]; rfl) | rfl | (simp only [List.length_drop, List.length_take]; rfl)) ?_; (with_reducible refine (laws_above.calls t320 t321 _ _ t322 (wrap64 ((wrap64 (x340000_4 + (ji51))) + (ji52))) (wrap64 ((wrap64 (x340001_4 + (ji53))) + (ji51))) t328 true _ ?side1 ?side2 A59.out).mono ?_); (case side1 => repeat (first | exact (Kd.Q_reads' HO_328002.out).2.2 | (with_reducible refine zI ?_ _) | (with_reducible refine zH ?_ _) | (with_reducible refine zJ ?_))); (case side2 => exact (Kd.Q_reads' HO_328002.out).2.1); rintro e w72 ⟨rfl, hb⟩; refine ⟨_, rfl, ?_⟩; have n0_ := zA (zL (bC_ HO_9) hb); have n1_ := zA (Kd.Q_below (by (with_reducible repeat (first | apply Kd.Q_alloc | apply Kd.Q_drewN | apply Kd.Q_drew)); exact HO_327002.out) hb); have n2_ := zA (Kd.Q_below (by (with_reducible repeat (first | apply Kd.Q_alloc | apply Kd.Q_drewN | apply Kd.Q_drew)); exact HO_328002.out) hb); have n3_ := zA (zU (g := gb326) (o := .cells #[.int .i64 t315, .int .i64 t316, .slice Ao16 t317.length co16] 26 (0, 0)) (bA_ BK326) hb); have n4_ := zA (zU (g := gb327) (o := .cells #[.int .i64 t320, .int .i64 t321, .slice Ao18 t322.length co18] 26 (0, 0)) (bA_ BK327) hb); have n5_ := zA (zU (g := gb339) (o := .cells #[.int .i64 x340000_4, .int .i64 x340001_4] 43 (0, 0)) (bA_ BK339) hb); have n6_ := zA (zU (g := gb341) (o := .cells #[.int .i64 ((rd_T43 t329 (ji31)).f0), .int .i64 ((rd_T43 t329 (ji31)).f1)] 43 (0, 0)) (bA_ BK341) hb); have n7_ := zA (below_step (bB_ HB) hb); clear HO_9; clear HO_327002; clear HO_328002; clear BK326; clear BK327; clear BK339; clear BK341; clear HB; have HO_9 := n0_; have HO_327002 := n1_; have HO_328002 := n2_; have BK326 := n3_; have BK327 := n4_; have BK339 := n5_; have BK341 := n6_; have HB := n7_; clear n0_ n1_ n2_ n3_ n4_ n5_ n6_ n7_; (try clear hb); (try clear hb2); (try clear hk); (try clear hi); have hcz73_0 : w72.cell? ⟨gb327, 0, none⟩ = some (.int .i64 t320) := (blk_cell BK327.out 0).trans rfl; have hcz73_1 : w72.cell? ⟨gb327, 1, none⟩ = some (.int .i64 t321) := (blk_cell BK327.out 1).trans rfl; have hcz73_2 : w72.cell? ⟨gb327, 2, none⟩ = some (.slice Ao18 t322.length co18) := (blk_cell BK327.out 2).trans rfl; have hfz73_0 := blk_frozen BK327.out 0; have hfz73_1 := blk_frozen BK327.out 1; have hfz73_2 := blk_frozen BK327.out 2) | (go_at_call 26; (with_reducible refine (laws_above.calls t320 t321 _ _ t322 (wrap64 ((wrap64 (x340000_4 + (ji51))) + (ji53))) (wrap64 ((wrap64 (x340001_4 + (ji53))) + (ji58))) t328 true _ ?side1 ?side2 A61.out).mono ?_); (case side1 => repeat (first | exact (Kd.Q_reads' HO_328002.out).2.2 | (with_reducible refine zI ?_ _) | (with_reducible refine zH ?_ _) | (with_reducible refine zJ ?_))); (case side2 => exact (Kd.Q_reads' HO_328002.out).2.1); rintro e w74 ⟨rfl, hb⟩; have n0_ := zA (zL (bC_ HO_9) hb); have n1_ := zA (Kd.Q_below (by (with_reducible repeat (first | apply Kd.Q_alloc | apply Kd.Q_drewN | apply Kd.Q_drew)); exact HO_327002.out) hb); have n2_ := zA (Kd.Q_below (by (with_reducible repeat (first | apply Kd.Q_alloc | apply Kd.Q_drewN | apply Kd.Q_drew)); exact HO_328002.out) hb); have n3_ := zA (zU (g := gb326) (o := .cells #[.int .i64 t315, .int .i64 t316, .slice Ao16 t317.length co16] 26 (0, 0)) (bA_ BK326) hb); have n4_ := zA (zU (g := gb327) (o := .cells #[.int .i64 t320, .int .i64 t321, .slice Ao18 t322.length co18] 26 (0, 0)) (bA_ BK327) hb); have n5_ := zA (zU (g := gb339) (o := .cells #[.int .i64 x340000_4, .int .i64 x340001_4] 43 (0, 0)) (bA_ BK339) hb); have n6_ := zA (zU (g := gb341) (o := .cells #[.int .i64 ((rd_T43 t329 (ji31)).f0), .int .i64 ((rd_T43 t329 (ji31)).f1)] 43 (0, 0)) (bA_ BK341) hb); have n7_ := zA (below_step (bB_ HB) hb); clear HO_9; clear HO_327002; clear HO_328002; clear BK326; clear BK327; clear BK339; clear BK341; clear HB; have HO_9 := n0_; have HO_327002 := n1_; have HO_328002 := n2_; have BK326 := n3_; have BK327 := n4_; have BK339 := n5_; have BK341 := n6_; have HB := n7_; clear n0_ n1_ n2_ n3_ n4_ n5_ n6_ n7_; (try clear hb); (try clear hb2); (try clear hk); (try clear hi)))
                     go_ret
                     exact ⟨by first | rfl | (simp [errW_none, errW_some] <;> rfl) | (simp only [← hji31, ← hji51, ← hji52, ← hji53, ← hji58]; first | rfl | (simp [errW_none, errW_some] <;> rfl)) | (simp [*, errW_none, errW_some] <;> rfl), bB_ HB⟩
                    ·replace c62 := Bool.eq_false_iff.mpr c62
                     subst c62
                     have H1 : (laws_FnContour.l1 k4 t328 t329 (wrap64 (x13_3 + (wrap64 ((wrap64 (((rd_T43 t329 x14_3).f0) * ((rd_T43 t329 (ji31)).f1))) - (wrap64 (((rd_T43 t329 x14_3).f1) * ((rd_T43 t329 (ji31)).f0))))))) x14_3 t342 t343 t320 t321 t322 (wrap64 (x340000_4 + t342)) (wrap64 (x340001_4 + t343)) ((rd_T43 t329 (ji31)).f0) ((rd_T43 t329 (ji31)).f1)) = some r := by rw [if_neg (show ¬ (false = true) by decide)] at H; exact H
                     clear H
                     have H := H1
                     clear H1
                     have H' := zA H
                     clear H
                     have hnb75 := NB339_326.out
                     have hnc75 := NB326_339.out
                     have hnb76 := NB339_327.out
                     have hnc76 := NB327_339.out
                     have hnb77 := NB339_341.out
                     have hnc77 := NB341_339.out
                     have hcz78_0 : wr.cell? ⟨gb339, 0, none⟩ = some (.int .i64 x340000_4) := (blk_cell BK339.out 0).trans rfl
                     have hcz78_1 : wr.cell? ⟨gb339, 1, none⟩ = some (.int .i64 x340001_4) := (blk_cell BK339.out 1).trans rfl
                     have hfz78_0 := blk_frozen BK339.out 0
                     have hfz78_1 := blk_frozen BK339.out 1
                     have hnb79 := NB341_326.out
                     have hnc79 := NB326_341.out
                     have hnb80 := NB341_327.out
                     have hnc80 := NB327_341.out
                     have hcz81_0 : wr.cell? ⟨gb341, 0, none⟩ = some (.int .i64 ((rd_T43 t329 (ji31)).f0)) := (blk_cell BK341.out 0).trans rfl
                     have hcz81_1 : wr.cell? ⟨gb341, 1, none⟩ = some (.int .i64 ((rd_T43 t329 (ji31)).f1)) := (blk_cell BK341.out 1).trans rfl
                     have hfz81_0 := blk_frozen BK341.out 0
                     have hfz81_1 := blk_frozen BK341.out 1
                     have hnb82 := NB327_326.out
                     have hnc82 := NB326_327.out
                     have hcz83_0 : wr.cell? ⟨gb327, 0, none⟩ = some (.int .i64 t320) := (blk_cell BK327.out 0).trans rfl
                     have hcz83_1 : wr.cell? ⟨gb327, 1, none⟩ = some (.int .i64 t321) := (blk_cell BK327.out 1).trans rfl
                     have hcz83_2 : wr.cell? ⟨gb327, 2, none⟩ = some (.slice Ao18 t322.length co18) := (blk_cell BK327.out 2).trans rfl
                     have hfz83_0 := blk_frozen BK327.out 0
                     have hfz83_1 := blk_frozen BK327.out 1
                     have hfz83_2 := blk_frozen BK327.out 2
                     go_wp2_with (first | ((with_reducible refine gate_callee (f := 26) rfl ?_); refine goesL_ (some 155) rfl rfl Try.func26 (by kernel_rfl) rfl #[.agg #[.int .i64 t320, .int .i64 t321, .slice Ao18 t322.length co18], .int .i64 (wrap64 ((wrap64 (x340000_4 + (ji51))) + (ji52))), .int .i64 (wrap64 ((wrap64 (x340001_4 + (ji53))) + (ji51))), .int .i64 t328] rfl (by (try simp only [List.map_toArray, List.map_cons, List.map_nil]); first | done | (simp only [hji51, hji52, hji53]; rfl) | rfl | (simp only [List.length_drop, List.length_take]; rfl)) ?_; (with_reducible refine (laws_above.calls t320 t321 _ _ t322 (wrap64 ((wrap64 (x340000_4 + (ji51))) + (ji52))) (wrap64 ((wrap64 (x340001_4 + (ji53))) + (ji51))) t328 true _ ?side1 ?side2 A59.out).mono ?_); (case side1 => repeat (first | exact (Kd.Q_reads' HO_328002.out).2.2 | (with_reducible refine zI ?_ _) | (with_reducible refine zH ?_ _) | (with_reducible refine zJ ?_))); (case side2 => exact (Kd.Q_reads' HO_328002.out).2.1); rintro e w84 ⟨rfl, hb⟩; refine ⟨_, rfl, ?_⟩; have n0_ := zA (zL (bC_ HO_9) hb); have n1_ := zA (Kd.Q_below (by (with_reducible repeat (first | apply Kd.Q_alloc | apply Kd.Q_drewN | apply Kd.Q_drew)); exact HO_327002.out) hb); have n2_ := zA (Kd.Q_below (by (with_reducible repeat (first | apply Kd.Q_alloc | apply Kd.Q_drewN | apply Kd.Q_drew)); exact HO_328002.out) hb); have n3_ := zA (zU (g := gb326) (o := .cells #[.int .i64 t315, .int .i64 t316, .slice Ao16 t317.length co16] 26 (0, 0)) (bA_ BK326) hb); have n4_ := zA (zU (g := gb327) (o := .cells #[.int .i64 t320, .int .i64 t321, .slice Ao18 t322.length co18] 26 (0, 0)) (bA_ BK327) hb); have n5_ := zA (zU (g := gb339) (o := .cells #[.int .i64 x340000_4, .int .i64 x340001_4] 43 (0, 0)) (bA_ BK339) hb); have n6_ := zA (zU (g := gb341) (o := .cells #[.int .i64 ((rd_T43 t329 (ji31)).f0), .int .i64 ((rd_T43 t329 (ji31)).f1)] 43 (0, 0)) (bA_ BK341) hb); have n7_ := zA (below_step (bB_ HB) hb); clear HO_9; clear HO_327002; clear HO_328002; clear BK326; clear BK327; clear BK339; clear BK341; clear HB; have HO_9 := n0_; have HO_327002 := n1_; have HO_328002 := n2_; have BK326 := n3_; have BK327 := n4_; have BK339 := n5_; have BK341 := n6_; have HB := n7_; clear n0_ n1_ n2_ n3_ n4_ n5_ n6_ n7_; (try clear hb); (try clear hb2); (try clear hk); (try clear hi); have hcz85_0 : w84.cell? ⟨gb327, 0, none⟩ = some (.int .i64 t320) := (blk_cell BK327.out 0).trans rfl; have hcz85_1 : w84.cell? ⟨gb327, 1, none⟩ = some (.int .i64 t321) := (blk_cell BK327.out 1).trans rfl; have hcz85_2 : w84.cell? ⟨gb327, 2, none⟩ = some (.slice Ao18 t322.length co18) := (blk_cell BK327.out 2).trans rfl; have hfz85_0 := blk_frozen BK327.out 0; have hfz85_1 := blk_frozen BK327.out 1; have hfz85_2 := blk_frozen BK327.out 2) | (go_at_call 26; (with_reducible refine (laws_above.calls t320 t321 _ _ t322 (wrap64 ((wrap64 (x340000_4 + (ji51))) + (ji53))) (wrap64 ((wrap64 (x340001_4 + (ji53))) + (ji58))) t328 false _ ?side1 ?side2 A61.out).mono ?_); (case side1 => repeat (first | exact (Kd.Q_reads' HO_328002.out).2.2 | (with_reducible refine zI ?_ _) | (with_reducible refine zH ?_ _) | (with_reducible refine zJ ?_))); (case side2 => exact (Kd.Q_reads' HO_328002.out).2.1); rintro e w86 ⟨rfl, hb⟩; have n0_ := zA (zL (bC_ HO_9) hb); have n1_ := zA (Kd.Q_below (by (with_reducible repeat (first | apply Kd.Q_alloc | apply Kd.Q_drewN | apply Kd.Q_drew)); exact HO_327002.out) hb); have n2_ := zA (Kd.Q_below (by (with_reducible repeat (first | apply Kd.Q_alloc | apply Kd.Q_drewN | apply Kd.Q_drew)); exact HO_328002.out) hb); have n3_ := zA (zU (g := gb326) (o := .cells #[.int .i64 t315, .int .i64 t316, .slice Ao16 t317.length co16] 26 (0, 0)) (bA_ BK326) hb); have n4_ := zA (zU (g := gb327) (o := .cells #[.int .i64 t320, .int .i64 t321, .slice Ao18 t322.length co18] 26 (0, 0)) (bA_ BK327) hb); have n5_ := zA (zU (g := gb339) (o := .cells #[.int .i64 x340000_4, .int .i64 x340001_4] 43 (0, 0)) (bA_ BK339) hb); have n6_ := zA (zU (g := gb341) (o := .cells #[.int .i64 ((rd_T43 t329 (ji31)).f0), .int .i64 ((rd_T43 t329 (ji31)).f1)] 43 (0, 0)) (bA_ BK341) hb); have n7_ := zA (below_step (bB_ HB) hb); clear HO_9; clear HO_327002; clear HO_328002; clear BK326; clear BK327; clear BK339; clear BK341; clear HB; have HO_9 := n0_; have HO_327002 := n1_; have HO_328002 := n2_; have BK326 := n3_; have BK327 := n4_; have BK339 := n5_; have BK341 := n6_; have HB := n7_; clear n0_ n1_ n2_ n3_ n4_ n5_ n6_ n7_; (try clear hb); (try clear hb2); (try clear hk); (try clear hi); have hcz87_0 : w86.cell? ⟨gb339, 0, none⟩ = some (.int .i64 x340000_4) := (blk_cell BK339.out 0).trans rfl; have hcz87_1 : w86.cell? ⟨gb339, 1, none⟩ = some (.int .i64 x340001_4) := (blk_cell BK339.out 1).trans rfl; have hfz87_0 := blk_frozen BK339.out 0; have hfz87_1 := blk_frozen BK339.out 1))
                     go_roundg k4
                     case measure => have := HJ2.out; have := HJ9.out; have := HK3.out; have := HK4.out; omega
                     case rel => exact ⟨(wrap64 (x340000_4 + t342)), (wrap64 (x340001_4 + t343)), H', ⟨by have := HJ2.out; have := HJ9.out; have := HK3.out; have := HK4.out; omega⟩, ⟨by (with_reducible repeat (first | apply zF | apply zE | apply zG)); exact Kd.R_mono (Kd.R_far (p := ⟨gb339, 1, none⟩) (Kd.R_far (p := ⟨gb339, 0, none⟩) (Kd.R_mono HO_9.out (fun k_ hk => (⟨hk, hk.1⟩ : _ ∧ k_ ≠ gb339))) (fun _ hk => hk.2) (.int .i64 (wrap64 (x340000_4 + t342)))) (fun _ hk => hk.2) (.int .i64 (wrap64 (x340001_4 + t343)))) (fun _ hk => ⟨hk.1.1, hk.1.2⟩)⟩, ⟨by (with_reducible repeat (first | apply Kd.Q_alloc | apply Kd.Q_drewN | apply Kd.Q_drew)); exact Kd.Q_mono (Kd.Q_far (p := ⟨gb339, 1, none⟩) (Kd.Q_far (p := ⟨gb339, 0, none⟩) (Kd.Q_types HO_327002.out BK339.out (by decide)) (fun _ hk => hk.2) (.int .i64 (wrap64 (x340000_4 + t342)))) (fun _ hk => hk.2) (.int .i64 (wrap64 (x340001_4 + t343)))) (fun _ hk => hk.1)⟩, ⟨by (with_reducible repeat (first | apply Kd.Q_alloc | apply Kd.Q_drewN | apply Kd.Q_drew)); exact Kd.Q_mono (Kd.Q_far (p := ⟨gb339, 1, none⟩) (Kd.Q_far (p := ⟨gb339, 0, none⟩) (Kd.Q_types HO_328002.out BK339.out (by decide)) (fun _ hk => hk.2) (.int .i64 (wrap64 (x340000_4 + t342)))) (fun _ hk => hk.2) (.int .i64 (wrap64 (x340001_4 + t343)))) (fun _ hk => hk.1)⟩, ⟨bD_ BK326⟩, ⟨bD_ BK327⟩, ⟨by (with_reducible repeat (first | refine zM ?_ _ | refine zN ?_ | refine zO ?_ _)); refine blk_put (cs := #[.int .i64 (wrap64 (x340000_4 + t342)), .int .i64 x340001_4]) ?_ 1 _ rfl; (with_reducible repeat (first | refine zM ?_ _ | refine zN ?_ | refine zO ?_ _)); refine blk_put (cs := #[.int .i64 x340000_4, .int .i64 x340001_4]) ?_ 0 _ rfl; (with_reducible repeat (first | refine zM ?_ _ | refine zN ?_ | refine zO ?_ _)); exact BK339.out⟩, ⟨bD_ BK341⟩, ⟨bB_ HB⟩⟩
                   ·replace c60 := Bool.eq_false_iff.mpr c60
                    subst c60
                    have H1 : (some false) = some r := by rw [if_neg (show ¬ (false = true) by decide)] at H; exact H
                    clear H
                    have H := H1
                    clear H1
                    obtain rfl := Option.some.inj H
                    have hnb88 := NB339_326.out
                    have hnc88 := NB326_339.out
                    have hnb89 := NB339_327.out
                    have hnc89 := NB327_339.out
                    have hnb90 := NB339_341.out
                    have hnc90 := NB341_339.out
                    have hcz91_0 : wr.cell? ⟨gb339, 0, none⟩ = some (.int .i64 x340000_4) := (blk_cell BK339.out 0).trans rfl
                    have hcz91_1 : wr.cell? ⟨gb339, 1, none⟩ = some (.int .i64 x340001_4) := (blk_cell BK339.out 1).trans rfl
                    have hfz91_0 := blk_frozen BK339.out 0
                    have hfz91_1 := blk_frozen BK339.out 1
                    have hnb92 := NB341_326.out
                    have hnc92 := NB326_341.out
                    have hnb93 := NB341_327.out
                    have hnc93 := NB327_341.out
                    have hcz94_0 : wr.cell? ⟨gb341, 0, none⟩ = some (.int .i64 ((rd_T43 t329 (ji31)).f0)) := (blk_cell BK341.out 0).trans rfl
                    have hcz94_1 : wr.cell? ⟨gb341, 1, none⟩ = some (.int .i64 ((rd_T43 t329 (ji31)).f1)) := (blk_cell BK341.out 1).trans rfl
                    have hfz94_0 := blk_frozen BK341.out 0
                    have hfz94_1 := blk_frozen BK341.out 1
                    have hnb95 := NB327_326.out
                    have hnc95 := NB326_327.out
                    have hcz96_0 : wr.cell? ⟨gb327, 0, none⟩ = some (.int .i64 t320) := (blk_cell BK327.out 0).trans rfl
                    have hcz96_1 : wr.cell? ⟨gb327, 1, none⟩ = some (.int .i64 t321) := (blk_cell BK327.out 1).trans rfl
                    have hcz96_2 : wr.cell? ⟨gb327, 2, none⟩ = some (.slice Ao18 t322.length co18) := (blk_cell BK327.out 2).trans rfl
                    have hfz96_0 := blk_frozen BK327.out 0
                    have hfz96_1 := blk_frozen BK327.out 1
                    have hfz96_2 := blk_frozen BK327.out 2
                    go_wp2_with (first | ((with_reducible refine gate_callee (f := 26) rfl ?_); refine goesL_ (some 155) rfl rfl Try.func26 (by kernel_rfl) rfl #[.agg #[.int .i64 t320, .int .i64 t321, .slice Ao18 t322.length co18], .int .i64 (wrap64 ((wrap64 (x340000_4 + (ji51))) + (ji52))), .int .i64 (wrap64 ((wrap64 (x340001_4 + (ji53))) + (ji51))), .int .i64 t328] rfl (by (try simp only [List.map_toArray, List.map_cons, List.map_nil]); first | done | (simp only [hji51, hji52, hji53]; rfl) | rfl | (simp only [List.length_drop, List.length_take]; rfl)) ?_; (with_reducible refine (laws_above.calls t320 t321 _ _ t322 (wrap64 ((wrap64 (x340000_4 + (ji51))) + (ji52))) (wrap64 ((wrap64 (x340001_4 + (ji53))) + (ji51))) t328 false _ ?side1 ?side2 A59.out).mono ?_); (case side1 => repeat (first | exact (Kd.Q_reads' HO_328002.out).2.2 | (with_reducible refine zI ?_ _) | (with_reducible refine zH ?_ _) | (with_reducible refine zJ ?_))); (case side2 => exact (Kd.Q_reads' HO_328002.out).2.1); rintro e w97 ⟨rfl, hb⟩; refine ⟨_, rfl, ?_⟩; have n0_ := zA (zL (bC_ HO_9) hb); have n1_ := zA (Kd.Q_below (by (with_reducible repeat (first | apply Kd.Q_alloc | apply Kd.Q_drewN | apply Kd.Q_drew)); exact HO_327002.out) hb); have n2_ := zA (Kd.Q_below (by (with_reducible repeat (first | apply Kd.Q_alloc | apply Kd.Q_drewN | apply Kd.Q_drew)); exact HO_328002.out) hb); have n3_ := zA (zU (g := gb326) (o := .cells #[.int .i64 t315, .int .i64 t316, .slice Ao16 t317.length co16] 26 (0, 0)) (bA_ BK326) hb); have n4_ := zA (zU (g := gb327) (o := .cells #[.int .i64 t320, .int .i64 t321, .slice Ao18 t322.length co18] 26 (0, 0)) (bA_ BK327) hb); have n5_ := zA (zU (g := gb339) (o := .cells #[.int .i64 x340000_4, .int .i64 x340001_4] 43 (0, 0)) (bA_ BK339) hb); have n6_ := zA (zU (g := gb341) (o := .cells #[.int .i64 ((rd_T43 t329 (ji31)).f0), .int .i64 ((rd_T43 t329 (ji31)).f1)] 43 (0, 0)) (bA_ BK341) hb); have n7_ := zA (below_step (bB_ HB) hb); clear HO_9; clear HO_327002; clear HO_328002; clear BK326; clear BK327; clear BK339; clear BK341; clear HB; have HO_9 := n0_; have HO_327002 := n1_; have HO_328002 := n2_; have BK326 := n3_; have BK327 := n4_; have BK339 := n5_; have BK341 := n6_; have HB := n7_; clear n0_ n1_ n2_ n3_ n4_ n5_ n6_ n7_; (try clear hb); (try clear hb2); (try clear hk); (try clear hi)))
                    go_ret
                    exact ⟨by first | rfl | (simp [errW_none, errW_some] <;> rfl) | (simp only [← hji31, ← hji51, ← hji52, ← hji53, ← hji58]; first | rfl | (simp [errW_none, errW_some] <;> rfl)) | (simp [*, errW_none, errW_some] <;> rfl), bB_ HB⟩
                  ·rw [if_neg c50] at H
                   have c50b0 : (!(x340000_4 == ((rd_T43 t329 (ji31)).f0)) || (!(x340001_4 == ((rd_T43 t329 (ji31)).f1)))) = false := by simpa using c50
                   clear c50
                   have H' := zA H
                   clear H
                   have hnb98 := NB339_326.out
                   have hnc98 := NB326_339.out
                   have hnb99 := NB339_327.out
                   have hnc99 := NB327_339.out
                   have hnb100 := NB339_341.out
                   have hnc100 := NB341_339.out
                   have hcz101_0 : wr.cell? ⟨gb339, 0, none⟩ = some (.int .i64 x340000_4) := (blk_cell BK339.out 0).trans rfl
                   have hcz101_1 : wr.cell? ⟨gb339, 1, none⟩ = some (.int .i64 x340001_4) := (blk_cell BK339.out 1).trans rfl
                   have hfz101_0 := blk_frozen BK339.out 0
                   have hfz101_1 := blk_frozen BK339.out 1
                   have hnb102 := NB341_326.out
                   have hnc102 := NB326_341.out
                   have hnb103 := NB341_327.out
                   have hnc103 := NB327_341.out
                   have hcz104_0 : wr.cell? ⟨gb341, 0, none⟩ = some (.int .i64 ((rd_T43 t329 (ji31)).f0)) := (blk_cell BK341.out 0).trans rfl
                   have hcz104_1 : wr.cell? ⟨gb341, 1, none⟩ = some (.int .i64 ((rd_T43 t329 (ji31)).f1)) := (blk_cell BK341.out 1).trans rfl
                   have hfz104_0 := blk_frozen BK341.out 0
                   have hfz104_1 := blk_frozen BK341.out 1
                   go_wp2
                   go_roundg k4
                   case measure => have := HJ2.out; have := HJ9.out; have := HK3.out; have := HK4.out; omega
                   case rel => exact ⟨((wrap64 (x13_3 + (wrap64 ((wrap64 (((rd_T43 t329 x14_3).f0) * ((rd_T43 t329 (ji31)).f1))) - (wrap64 (((rd_T43 t329 x14_3).f1) * ((rd_T43 t329 (ji31)).f0)))))))), (wrap64 (x14_3 + 1)), (by first | rfl | (simp; done) | (simp only [← hji31] <;> (first | rfl | simp)) | (simp [*]; done)), (by first | rfl | (simp; done) | (simp [*]; done)), H', ⟨by have := HJ2.out; have := HJ9.out; have := HK3.out; have := HK4.out; omega⟩, ⟨by (with_reducible repeat (first | apply zF | apply zE | apply zG)); exact Kd.R_mono HO_9.out (fun _ hk => trivial)⟩, ⟨by (with_reducible repeat (first | apply Kd.Q_alloc | apply Kd.Q_drewN | apply Kd.Q_drew)); exact HO_327002.out⟩, ⟨by (with_reducible repeat (first | apply Kd.Q_alloc | apply Kd.Q_drewN | apply Kd.Q_drew)); exact HO_328002.out⟩, ⟨bA_ BK326⟩, ⟨bA_ BK327⟩, ⟨bB_ HB⟩⟩
               ·rw [if_neg c38] at H
                have c38b0 : ((wrap64 (t344 + t345)) == 1) = false := beq_eq_false_iff_ne.mpr c38
                have c38b1 : ((wrap64 (t344 + t345)) != 1) = true := bne_iff_ne.mpr c38
                obtain rfl := Option.some.inj H
                obtain ⟨Ao105, co105, eo105⟩ := Kd.R_slice HO_9.out
                subst eo105
                have p338 : 0 ≤ (x14_3 : Int) := of_decide_eq_true (by first | (with_reducible assumption) | assumption)
                have q338 : x14_3 < (t329.length : Int) := of_decide_eq_true (by first | (with_reducible assumption) | assumption)
                obtain ⟨ad338, e338, hx338_0, hx338_1⟩ := at_T43 (zK HO_9.out).2.2 x14_3 p338 q338
                cases e338
                replace p338 := eq_true p338
                replace q338 := eq_true q338
                go_wp2_with (first | ((with_reducible refine gate_dst (N := 15) rfl ?_); (try (refine gate_guard (by rfl) ?_; dsimp only)); refine box_event ?hg (N := 15) ?hd (cs := #[.int .i64 0, .int .i64 0]) (t := 43) ?hr ?_; (case hd => rfl); (case hg => rfl); (case hr => first | (go_simp; done) | (go_simp; rfl)); intro gb339 hg w106 hbox hb; have n0_ := zA (zL (Kd.R_elderB (bC_ HO_9) gb339 (Nat.le_of_eq hg.symm)) hb); have n1_ := zA (Kd.Q_below (by (with_reducible repeat (first | apply Kd.Q_alloc | apply Kd.Q_drewN | apply Kd.Q_drew)); exact HO_327002.out) hb); have n2_ := zA (Kd.Q_below (by (with_reducible repeat (first | apply Kd.Q_alloc | apply Kd.Q_drewN | apply Kd.Q_drew)); exact HO_328002.out) hb); have n3_ := zA (zU (g := gb326) (o := .cells #[.int .i64 t315, .int .i64 t316, .slice Ao16 t317.length co16] 26 (0, 0)) (bA_ BK326) hb); have n4_ := zA (zU (g := gb327) (o := .cells #[.int .i64 t320, .int .i64 t321, .slice Ao18 t322.length co18] 26 (0, 0)) (bA_ BK327) hb); have n5_ := zA (below_step (bB_ HB) hb); have n6_ := zA (hbox); have n7_ := zA ((by rw [hg]; exact (zT (bB_ HB)) : w.heap.size ≤ gb339)); have n8_ := zA ((by rw [hg]; exact (zT (bB_ HB)) : w.heap.size ≤ gb339)); have n9_ := zA ((by rw [hg]; exact Nat.ne_of_lt (blk_lt (g := gb326) (o := .cells #[.int .i64 t315, .int .i64 t316, .slice Ao16 t317.length co16] 26 (0, 0)) (bA_ BK326)) : gb326 ≠ gb339)); have n10_ := zA ((by rw [hg]; exact Nat.ne_of_gt (blk_lt (g := gb326) (o := .cells #[.int .i64 t315, .int .i64 t316, .slice Ao16 t317.length co16] 26 (0, 0)) (bA_ BK326)) : gb339 ≠ gb326)); have n11_ := zA ((by rw [hg]; exact Nat.ne_of_lt (blk_lt (g := gb327) (o := .cells #[.int .i64 t320, .int .i64 t321, .slice Ao18 t322.length co18] 26 (0, 0)) (bA_ BK327)) : gb327 ≠ gb339)); have n12_ := zA ((by rw [hg]; exact Nat.ne_of_gt (blk_lt (g := gb327) (o := .cells #[.int .i64 t320, .int .i64 t321, .slice Ao18 t322.length co18] 26 (0, 0)) (bA_ BK327)) : gb339 ≠ gb327)); clear HO_9; clear HO_327002; clear HO_328002; clear BK326; clear BK327; clear HB; have HO_9 := n0_; have HO_327002 := n1_; have HO_328002 := n2_; have BK326 := n3_; have BK327 := n4_; have HB := n5_; have BK339 := n6_; have GW339 := n7_; have GE339 := n8_; have NB326_339 := n9_; have NB339_326 := n10_; have NB327_339 := n11_; have NB339_327 := n12_; clear n0_ n1_ n2_ n3_ n4_ n5_ n6_ n7_ n8_ n9_ n10_ n11_ n12_; clear hb hbox hg; have hnb107 := NB339_326.out; have hnc107 := NB326_339.out; have hnb108 := NB339_327.out; have hnc108 := NB327_339.out; have hcz109_0 : w106.cell? ⟨gb339, 0, none⟩ = some (.int .i64 0) := (blk_cell BK339.out 0).trans rfl; have hcz109_1 : w106.cell? ⟨gb339, 1, none⟩ = some (.int .i64 0) := (blk_cell BK339.out 1).trans rfl; have hfz109_0 := blk_frozen BK339.out 0; have hfz109_1 := blk_frozen BK339.out 1; have p340 : 0 ≤ ((ji31) : Int) := of_decide_eq_true (by first | (with_reducible assumption) | assumption); have q340 : (ji31) < (t329.length : Int) := of_decide_eq_true (by first | (with_reducible assumption) | assumption); obtain ⟨ad340, e340, hx340_0, hx340_1⟩ := at_T43 (zK HO_9.out).2.2 (ji31) p340 q340; obtain rfl : ad338 = ad340 := (by injection e340); have hn340_0 : ad338.block ≠ gb339 := Kd.own_blk (Kd.R_away HO_9.out (fun _ hk => hk.2)); have hn340_1 : ad338.block ≠ gb339 := Kd.own_blk (Kd.R_away HO_9.out (fun _ hk => hk.2)); replace hx340_0 := (cell_far (p := ⟨gb339, 0, none⟩) (by first | (rw [add_block]; exact hn340_0) | (show (Addr.add _ _).block ≠ _; rw [add_block]; exact hn340_0) | exact hn340_0) (.int .i64 ((rd_T43 t329 x14_3).f0))).trans hx340_0; replace hx340_1 := (cell_far (p := ⟨gb339, 0, none⟩) (by first | (rw [add_block]; exact hn340_0) | (show (Addr.add _ _).block ≠ _; rw [add_block]; exact hn340_0) | exact hn340_0) (.int .i64 ((rd_T43 t329 x14_3).f0))).trans hx340_1; replace hx340_0 := (cell_far (p := ⟨gb339, 1, none⟩) (by first | (rw [add_block]; exact hn340_1) | (show (Addr.add _ _).block ≠ _; rw [add_block]; exact hn340_1) | exact hn340_1) (.int .i64 ((rd_T43 t329 x14_3).f1))).trans hx340_0; replace hx340_1 := (cell_far (p := ⟨gb339, 1, none⟩) (by first | (rw [add_block]; exact hn340_1) | (show (Addr.add _ _).block ≠ _; rw [add_block]; exact hn340_1) | exact hn340_1) (.int .i64 ((rd_T43 t329 x14_3).f1))).trans hx340_1; clear hn340_0; clear hn340_1; replace p340 := eq_true p340; replace q340 := eq_true q340) | ((with_reducible refine gate_dst (N := 16) rfl ?_); (try (refine gate_guard (by rfl) ?_; dsimp only)); refine box_event ?hg (N := 16) ?hd (cs := #[.int .i64 0, .int .i64 0]) (t := 43) ?hr ?_; (case hd => rfl); (case hg => rfl); (case hr => first | (go_simp; done) | (go_simp; rfl)); intro gb341 hg w110 hbox hb; have n0_ := zA (zL (Kd.R_elderB (by (with_reducible repeat (first | apply zF | apply zE | apply zG)); exact (Kd.R_mono (Kd.R_far (p := ⟨gb339, 1, none⟩) (Kd.R_far (p := ⟨gb339, 0, none⟩) (Kd.R_mono HO_9.out (fun k_ hk => (⟨hk, hk.2⟩ : _ ∧ k_ ≠ gb339))) (fun _ hk => hk.2) (.int .i64 ((rd_T43 t329 x14_3).f0))) (fun _ hk => hk.2) (.int .i64 ((rd_T43 t329 x14_3).f1))) (fun _ h_ => h_.1))) gb341 (Nat.le_of_eq hg.symm)) hb); have n1_ := zA (Kd.Q_below (by (with_reducible repeat (first | apply Kd.Q_alloc | apply Kd.Q_drewN | apply Kd.Q_drew)); exact (Kd.Q_mono (Kd.Q_far (p := ⟨gb339, 1, none⟩) (Kd.Q_far (p := ⟨gb339, 0, none⟩) (Kd.Q_types HO_327002.out BK339.out (by decide)) (fun _ hk => hk.2) (.int .i64 ((rd_T43 t329 x14_3).f0))) (fun _ hk => hk.2) (.int .i64 ((rd_T43 t329 x14_3).f1))) (fun _ h_ => h_.1))) hb); have n2_ := zA (Kd.Q_below (by (with_reducible repeat (first | apply Kd.Q_alloc | apply Kd.Q_drewN | apply Kd.Q_drew)); exact (Kd.Q_mono (Kd.Q_far (p := ⟨gb339, 1, none⟩) (Kd.Q_far (p := ⟨gb339, 0, none⟩) (Kd.Q_types HO_328002.out BK339.out (by decide)) (fun _ hk => hk.2) (.int .i64 ((rd_T43 t329 x14_3).f0))) (fun _ hk => hk.2) (.int .i64 ((rd_T43 t329 x14_3).f1))) (fun _ h_ => h_.1))) hb); have n3_ := zA (zU (g := gb326) (o := .cells #[.int .i64 t315, .int .i64 t316, .slice Ao16 t317.length co16] 26 (0, 0)) (bD_ BK326) hb); have n4_ := zA (zU (g := gb327) (o := .cells #[.int .i64 t320, .int .i64 t321, .slice Ao18 t322.length co18] 26 (0, 0)) (bD_ BK327) hb); have n5_ := zA (zU (g := gb339) (o := .cells #[.int .i64 ((rd_T43 t329 x14_3).f0), .int .i64 ((rd_T43 t329 x14_3).f1)] 43 (0, 0)) (by (with_reducible repeat (first | refine zM ?_ _ | refine zN ?_ | refine zO ?_ _)); refine blk_put (cs := #[.int .i64 ((rd_T43 t329 x14_3).f0), .int .i64 0]) ?_ 1 _ rfl; (with_reducible repeat (first | refine zM ?_ _ | refine zN ?_ | refine zO ?_ _)); refine blk_put (cs := #[.int .i64 0, .int .i64 0]) ?_ 0 _ rfl; (with_reducible repeat (first | refine zM ?_ _ | refine zN ?_ | refine zO ?_ _)); exact BK339.out) hb); have n6_ := zA (below_step (bB_ HB) hb); have n7_ := zA (hbox); have n8_ := zA ((by rw [hg]; exact (zT (bB_ HB)) : w.heap.size ≤ gb341)); have n9_ := zA ((by rw [hg]; exact (zT (bB_ HB)) : w.heap.size ≤ gb341)); have n10_ := zA ((by rw [hg]; exact Nat.ne_of_lt (blk_lt (g := gb326) (o := .cells #[.int .i64 t315, .int .i64 t316, .slice Ao16 t317.length co16] 26 (0, 0)) (bD_ BK326)) : gb326 ≠ gb341)); have n11_ := zA ((by rw [hg]; exact Nat.ne_of_gt (blk_lt (g := gb326) (o := .cells #[.int .i64 t315, .int .i64 t316, .slice Ao16 t317.length co16] 26 (0, 0)) (bD_ BK326)) : gb341 ≠ gb326)); have n12_ := zA ((by rw [hg]; exact Nat.ne_of_lt (blk_lt (g := gb327) (o := .cells #[.int .i64 t320, .int .i64 t321, .slice Ao18 t322.length co18] 26 (0, 0)) (bD_ BK327)) : gb327 ≠ gb341)); have n13_ := zA ((by rw [hg]; exact Nat.ne_of_gt (blk_lt (g := gb327) (o := .cells #[.int .i64 t320, .int .i64 t321, .slice Ao18 t322.length co18] 26 (0, 0)) (bD_ BK327)) : gb341 ≠ gb327)); have n14_ := zA ((by rw [hg]; exact Nat.ne_of_lt (blk_lt (g := gb339) (o := .cells #[.int .i64 ((rd_T43 t329 x14_3).f0), .int .i64 ((rd_T43 t329 x14_3).f1)] 43 (0, 0)) (by (with_reducible repeat (first | refine zM ?_ _ | refine zN ?_ | refine zO ?_ _)); refine blk_put (cs := #[.int .i64 ((rd_T43 t329 x14_3).f0), .int .i64 0]) ?_ 1 _ rfl; (with_reducible repeat (first | refine zM ?_ _ | refine zN ?_ | refine zO ?_ _)); refine blk_put (cs := #[.int .i64 0, .int .i64 0]) ?_ 0 _ rfl; (with_reducible repeat (first | refine zM ?_ _ | refine zN ?_ | refine zO ?_ _)); exact BK339.out)) : gb339 ≠ gb341)); have n15_ := zA ((by rw [hg]; exact Nat.ne_of_gt (blk_lt (g := gb339) (o := .cells #[.int .i64 ((rd_T43 t329 x14_3).f0), .int .i64 ((rd_T43 t329 x14_3).f1)] 43 (0, 0)) (by (with_reducible repeat (first | refine zM ?_ _ | refine zN ?_ | refine zO ?_ _)); refine blk_put (cs := #[.int .i64 ((rd_T43 t329 x14_3).f0), .int .i64 0]) ?_ 1 _ rfl; (with_reducible repeat (first | refine zM ?_ _ | refine zN ?_ | refine zO ?_ _)); refine blk_put (cs := #[.int .i64 0, .int .i64 0]) ?_ 0 _ rfl; (with_reducible repeat (first | refine zM ?_ _ | refine zN ?_ | refine zO ?_ _)); exact BK339.out)) : gb341 ≠ gb339)); clear HO_9; clear HO_327002; clear HO_328002; clear BK326; clear BK327; clear BK339; clear HB; have HO_9 := n0_; have HO_327002 := n1_; have HO_328002 := n2_; have BK326 := n3_; have BK327 := n4_; have BK339 := n5_; have HB := n6_; have BK341 := n7_; have GW341 := n8_; have GE341 := n9_; have NB326_341 := n10_; have NB341_326 := n11_; have NB327_341 := n12_; have NB341_327 := n13_; have NB339_341 := n14_; have NB341_339 := n15_; clear n0_ n1_ n2_ n3_ n4_ n5_ n6_ n7_ n8_ n9_ n10_ n11_ n12_ n13_ n14_ n15_; clear hb hbox hg; have hnb111 := NB341_326.out; have hnc111 := NB326_341.out; have hnb112 := NB341_327.out; have hnc112 := NB327_341.out; have hnb113 := NB341_339.out; have hnc113 := NB339_341.out; have hcz114_0 : w110.cell? ⟨gb341, 0, none⟩ = some (.int .i64 0) := (blk_cell BK341.out 0).trans rfl; have hcz114_1 : w110.cell? ⟨gb341, 1, none⟩ = some (.int .i64 0) := (blk_cell BK341.out 1).trans rfl; have hfz114_0 := blk_frozen BK341.out 0; have hfz114_1 := blk_frozen BK341.out 1; have hcz115_0 : w110.cell? ⟨gb339, 0, none⟩ = some (.int .i64 ((rd_T43 t329 x14_3).f0)) := (blk_cell BK339.out 0).trans rfl; have hcz115_1 : w110.cell? ⟨gb339, 1, none⟩ = some (.int .i64 ((rd_T43 t329 x14_3).f1)) := (blk_cell BK339.out 1).trans rfl; have hfz115_0 := blk_frozen BK339.out 0; have hfz115_1 := blk_frozen BK339.out 1) | ((with_reducible refine gate_callee (f := 24) rfl ?_); refine goesL_ (some 101) rfl rfl Try.func24 (by kernel_rfl) rfl #[.int .i64 (wrap64 (((rd_T43 t329 (ji31)).f0) - ((rd_T43 t329 x14_3).f0)))] rfl (by (try simp only [List.map_toArray, List.map_cons, List.map_nil]); first | done | (simp only [hji31]; rfl) | rfl | (simp only [List.length_drop, List.length_take]; rfl)) ?_; (with_reducible refine (laws_sign.calls (wrap64 (((rd_T43 t329 (ji31)).f0) - ((rd_T43 t329 x14_3).f0))) t342 _ A34.out).mono ?_); rintro e w' ⟨rfl, ⟨nd, rfl⟩⟩; refine ⟨_, rfl, ?_⟩) | ((with_reducible refine gate_callee (f := 24) rfl ?_); refine goesL_ (some 107) rfl rfl Try.func24 (by kernel_rfl) rfl #[.int .i64 (wrap64 (((rd_T43 t329 (ji31)).f1) - ((rd_T43 t329 x14_3).f1)))] rfl (by (try simp only [List.map_toArray, List.map_cons, List.map_nil]); first | done | (simp only [hji31]; rfl) | rfl | (simp only [List.length_drop, List.length_take]; rfl)) ?_; (with_reducible refine (laws_sign.calls (wrap64 (((rd_T43 t329 (ji31)).f1) - ((rd_T43 t329 x14_3).f1))) t343 _ A35.out).mono ?_); rintro e w' ⟨rfl, ⟨nd, rfl⟩⟩; refine ⟨_, rfl, ?_⟩) | ((with_reducible refine gate_callee (f := 25) rfl ?_); refine goesL_ (some 109) rfl rfl Try.func25 (by kernel_rfl) rfl #[.int .i64 t342] rfl (by (try simp only [List.map_toArray, List.map_cons, List.map_nil]); first | done | rfl | (simp only [List.length_drop, List.length_take]; rfl)) ?_; (with_reducible refine (laws_abs.calls t342 t344 _ A36.out).mono ?_); rintro e w' ⟨rfl, ⟨nd, rfl⟩⟩; refine ⟨_, rfl, ?_⟩) | ((with_reducible refine gate_callee (f := 25) rfl ?_); refine goesL_ (some 111) rfl rfl Try.func25 (by kernel_rfl) rfl #[.int .i64 t343] rfl (by (try simp only [List.map_toArray, List.map_cons, List.map_nil]); first | done | rfl | (simp only [List.length_drop, List.length_take]; rfl)) ?_; (with_reducible refine (laws_abs.calls t343 t345 _ A37.out).mono ?_); rintro e w' ⟨rfl, ⟨nd, rfl⟩⟩; refine ⟨_, rfl, ?_⟩))
                go_ret
                exact ⟨by first | rfl | (simp [errW_none, errW_some] <;> rfl) | (simp only [← hji31]; first | rfl | (simp [errW_none, errW_some] <;> rfl)) | (simp [*, errW_none, errW_some] <;> rfl), bB_ HB⟩
              ·rw [if_neg c33] at H
               exact absurd H (by simp)
             ·rw [if_neg c32] at H
              exact absurd H (by simp)
           ·rw [if_neg c29] at H
            exact absurd H (by simp)
          ·rw [if_neg c28] at H
           have c28b0 : decide (x14_3 < (t329.length : Int)) = false := decide_eq_false c28
           clear c28
           obtain rfl := Option.some.inj H
           obtain ⟨Ao116, co116, eo116⟩ := Kd.R_slice HO_9.out
           subst eo116
           go_wp2
           go_ret
           exact ⟨by first | rfl | (simp [errW_none, errW_some] <;> rfl) | (simp [*, errW_none, errW_some] <;> rfl), bB_ HB⟩
       ·rw [if_neg c27] at H
        have c27b0 : (t332 == 0) = false := beq_eq_false_iff_ne.mpr c27
        have c27b1 : (t332 != 0) = true := bne_iff_ne.mpr c27
        obtain rfl := Option.some.inj H
        obtain ⟨Ao117, co117, eo117⟩ := Kd.R_slice HO_9.out
        subst eo117
        go_wp2
        go_ret
        exact ⟨by first | rfl | (simp [errW_none, errW_some] <;> rfl) | (simp [*, errW_none, errW_some] <;> rfl), bB_ HB⟩

/-- THE ONE PURE STATEMENT of laws_FnContour: yours. -/
def laws_FnContour.Pure : Prop := ∀ (l0 : List Int) (l1 : List Int), l0.length ≤ maxLen → l0.length * 1 ≤ 140737488351232 → (∀ x ∈ l0, (Lit.int .u8 x).wf = true) → l1.length ≤ maxLen → l1.length * 1 ≤ 140737488351232 → (∀ x ∈ l1, (Lit.int .u8 x).wf = true) → ∃ k, laws_FnContour.f k l0 l1 = some true
theorem laws_FnContour.walk (P : laws_FnContour.Pure) (a0 : Option Addr) (len0 cap0 : Nat) (z0 : List Int) (a1 : Option Addr) (len1 cap1 : Nat) (z1 : List Int) (w : World) (w0 : (a0 = none ∧ len0 = 0 ∧ cap0 = 0 ∧ z0 = []) ∨ ∃ x, a0 = some x ∧ len0 ≤ cap0 ∧ cap0 ≤ maxLen ∧ z0.length = cap0 ∧ (∀ i, i < z0.length → w.cell? (x.add i) = some (.int .u8 (z0.getD i 0))) ∧ ∀ n ∈ z0, (Lit.int .u8 n).wf = true) (y0 : len0 * 1 ≤ 140737488351232) (w1 : (a1 = none ∧ len1 = 0 ∧ cap1 = 0 ∧ z1 = []) ∨ ∃ x, a1 = some x ∧ len1 ≤ cap1 ∧ cap1 ≤ maxLen ∧ z1.length = cap1 ∧ (∀ i, i < z1.length → w.cell? (x.add i) = some (.int .u8 (z1.getD i 0))) ∧ ∀ n ∈ z1, (Lit.int .u8 n).wf = true) (y1 : len1 * 1 ≤ 140737488351232) :
  Calls Try.prog 5 #[.slice a0 len0 cap0, .slice a1 len1 cap1] w fun e w' => e = .returned (.bool true) ∧ Below w.heap.size w w' := by
 obtain ⟨l0, rfl, hr0, hm0, hw0, hc0⟩ := ReadsInt.ofRowC w0
 obtain ⟨l1, rfl, hr1, hm1, hw1, hc1⟩ := ReadsInt.ofRowC w1
 obtain ⟨k, h⟩ := P l0 l1 hm0 y0 hw0 hm1 y1 hw1
 refine (laws_FnContour.calls k _ _ l0 _ _ l1 true w (Kd.C_of_reads (d := (0 : Int)) (h1 := fun _ => rfl) hr0) hc0 (Kd.C_of_reads (d := (0 : Int)) (h1 := fun _ => rfl) hr1) hc1 h).mono ?_
 rintro e w' ⟨rfl, hd⟩
 exact ⟨rfl, hd⟩

end Go.Proofs.Ytgmbbcnfcddamaa.PFnContour
