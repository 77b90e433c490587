/- Written for this claim by a program of this session: the functions that the law reaches, each with its contract. -/
import Derived.Test.YthcpdgiinmocaaaPFnProbex0
import Derived.Test.YthcpdgiinmocaaaPFnProbex1
import Derived.Test.YthcpdgiinmocaaaPFnProbex2
import Derived.Test.YthcpdgiinmocaaaPFnProbex3
import Derived.Test.YthcpdgiinmocaaaPFnProbex4
import Derived.Test.YthcpdgiinmocaaaPFnProbex5
namespace Go.Proofs.Ythcpdgiinmocaaa.PFnProbe
open Go.RowKit Go.Proofs.YthcpdgiinmocaaaW.PrintWords Go.Proofs.YthcpdgiinmocaaaW.PrintLast Go.Proofs.YthcpdgiinmocaaaW.PrintMore
attribute [local go_sem] i64_w max2_int min2_int max_two min_two max_three min_three max_four min_four   -- for this text's walks alone
set_option linter.unusedVariables false
set_option linter.unusedSimpArgs false

/-! ### laws_FnProbe: function 5 -/
mutual
def laws_FnProbe.j0 : Nat → List Int → List Int → Bool → Option (Bool)
 | 0, _, _, _ => none
 | k + 1, x0, x1, x35 => if x35 = true then (some true) else ((spec_PointsOf.f k x0).bind fun t274 => ((laws_at.f x1 0 (t274.length : Int)).bind fun t277 => (if 0 ≤ t277 then (if t277 < (t274.length : Int) then ((impl_Probing.f k t274 ((rd_T45 t274 t277).f0) ((rd_T45 t274 t277).f1)).bind fun bt280 => ((spec_Probing.f k t274 ((rd_T45 t274 t277).f0) ((rd_T45 t274 t277).f1)).bind fun bt285 => (if bt280.2.2 = 0 then ((laws_sameInts.f k bt280.1 bt285.1).bind fun t290 => (if t290 = true then (if bt280.2.1 = bt285.2.1 then (laws_FnProbe.j1 k x0 t274 bt280.1 bt280.2.1 ((bt280.1.length : Int) != (t274.length : Int)) ((rd_T45 t274 t277).f0) ((rd_T45 t274 t277).f1)) else (laws_FnProbe.j1 k x0 t274 bt280.1 bt280.2.1 true ((rd_T45 t274 t277).f0) ((rd_T45 t274 t277).f1))) else (laws_FnProbe.j1 k x0 t274 bt280.1 bt280.2.1 true ((rd_T45 t274 t277).f0) ((rd_T45 t274 t277).f1)))) else (laws_FnProbe.j1 k x0 t274 bt280.1 bt280.2.1 true ((rd_T45 t274 t277).f0) ((rd_T45 t274 t277).f1))))) else (none)) else (none))))
def laws_FnProbe.j1 : Nat → List Int → List (S45) → List Int → Int → Bool → Int → Int → Option (Bool)
 | 0, _, _, _, _, _, _, _ => none
 | k + 1, x0, x5, x7, x8, x78, x280000, x280001 => if x78 = true then (some false) else (if 0 ≤ (x5.length : Int) then (if ((x5.length : Int) : Int).toNat ≤ 281474976710656 then (laws_FnProbe.l0 k x0 x5 x7 x8 (List.replicate ((x5.length : Int) : Int).toNat false) 0 0 x280000 x280001) else (none)) else (none))
def laws_FnProbe.l0 : Nat → List Int → List (S45) → List Int → Int → List Bool → Int → Int → Int → Int → Option (Bool)
 | 0, _, _, _, _, _, _, _, _, _ => none
 | k + 1, x0, x5, x7, x8, x13, x14, x15, x280000, x280001 => if x15 < (x7.length : Int) then (if 0 ≤ x15 then (if (rd x7 x15) < 0 then (laws_FnProbe.j3 k x0 x5 x7 x8 x13 x14 x15 true x280000 x280001) else (if (rd x7 x15) ≥ (x5.length : Int) then (laws_FnProbe.j3 k x0 x5 x7 x8 x13 x14 x15 true x280000 x280001) else (if 0 ≤ (rd x7 x15) then (if (rd x7 x15) < (x13.length : Int) then (laws_FnProbe.j3 k x0 x5 x7 x8 x13 x14 x15 (rdOf false x13 (rd x7 x15)) x280000 x280001) else (none)) else (none)))) else (none)) else (if x14 = x8 then ((spec_DrawJudge.f x0).bind fun bt313 => ((impl_Judge.f bt313.1 bt313.2.1 bt313.2.2.1 bt313.2.2.2).bind fun bt317 => ((spec_Judge.f k bt313.1 bt313.2.1 bt313.2.2.1 bt313.2.2.2).bind fun bt319 => (if bt317.2 = bt319.2 then (if bt317.2 = 0 then (if (wrap64 (bt313.1 + bt313.2.2.2)) ≥ bt313.2.1 then (if (wrap64 (bt313.1 - bt313.2.2.2)) ≥ bt313.2.1 then (if ((bt317.1 == 1) == (decide ((wrap64 (bt313.1 + bt313.2.2.2)) ≤ bt313.2.2.1))) = true then (if ((bt317.1 == 2) == (!(decide ((wrap64 (bt313.1 - bt313.2.2.2)) ≤ bt313.2.2.1)))) = true then (if bt317.1 ≥ 1 then (laws_FnProbe.j6 k (decide (bt317.1 ≤ 3))) else (laws_FnProbe.j6 k false)) else (laws_FnProbe.j6 k false)) else (laws_FnProbe.j6 k false)) else (if ((bt317.1 == 1) == false) = true then (if ((bt317.1 == 2) == (!(decide ((wrap64 (bt313.1 - bt313.2.2.2)) ≤ bt313.2.2.1)))) = true then (if bt317.1 ≥ 1 then (laws_FnProbe.j7 k (decide (bt317.1 ≤ 3))) else (laws_FnProbe.j7 k false)) else (laws_FnProbe.j7 k false)) else (laws_FnProbe.j7 k false))) else (if (wrap64 (bt313.1 - bt313.2.2.2)) ≥ bt313.2.1 then (if ((bt317.1 == 1) == (decide ((wrap64 (bt313.1 + bt313.2.2.2)) ≤ bt313.2.2.1))) = true then (if ((bt317.1 == 2) == (!false)) = true then (if bt317.1 ≥ 1 then (laws_FnProbe.j8 k (decide (bt317.1 ≤ 3))) else (laws_FnProbe.j8 k false)) else (laws_FnProbe.j8 k false)) else (laws_FnProbe.j8 k false)) else (if ((bt317.1 == 1) == false) = true then (if ((bt317.1 == 2) == (!false)) = true then (if bt317.1 ≥ 1 then (laws_FnProbe.j9 k (decide (bt317.1 ≤ 3))) else (laws_FnProbe.j9 k false)) else (laws_FnProbe.j9 k false)) else (laws_FnProbe.j9 k false)))) else (some (bt317.1 == 0))) else (some false))))) else (some false))
def laws_FnProbe.j3 : Nat → List Int → List (S45) → List Int → Int → List Bool → Int → Int → Bool → Int → Int → Option (Bool)
 | 0, _, _, _, _, _, _, _, _, _, _ => none
 | k + 1, x0, x5, x7, x8, x13, x14, x15, x110, x280000, x280001 => if x110 = true then (some false) else (if 0 ≤ x15 then (if x15 < (x7.length : Int) then (if 0 ≤ (rd x7 x15) then (if (rd x7 x15) < (x5.length : Int) then ((laws_abs.f (wrap64 (((rd_T45 x5 (rd x7 x15)).f0) - x280000))).bind fun t300 => ((laws_abs.f (wrap64 (((rd_T45 x5 (rd x7 x15)).f1) - x280001))).bind fun t303 => (laws_FnProbe.l1 k x0 x5 x7 x8 x13 x14 x15 (wrap64 (t300 + t303)) 0 x280000 x280001))) else (none)) else (none)) else (none)) else (none))
def laws_FnProbe.l1 : Nat → List Int → List (S45) → List Int → Int → List Bool → Int → Int → Int → Int → Int → Int → Option (Bool)
 | 0, _, _, _, _, _, _, _, _, _, _, _ => none
 | k + 1, x0, x5, x7, x8, x13, x14, x15, x16, x17, x280000, x280001 => if x17 < (x5.length : Int) then (if 0 ≤ x17 then (if x17 < (x13.length : Int) then (if rdOf false x13 x17 = true then (laws_FnProbe.j5 k x0 x5 x7 x8 x13 x14 x15 x16 x17 x280000 x280001) else ((laws_abs.f (wrap64 (((rd_T45 x5 x17).f0) - x280000))).bind fun t306 => ((laws_abs.f (wrap64 (((rd_T45 x5 x17).f1) - x280001))).bind fun t308 => (if (wrap64 (t306 + t308)) < x16 then (some false) else (laws_FnProbe.j5 k x0 x5 x7 x8 x13 x14 x15 x16 x17 x280000 x280001))))) else (none)) else (none)) else (if 0 ≤ x15 then (if x15 < (x7.length : Int) then (if 0 ≤ (rd x7 x15) then (if (rd x7 x15) < (x13.length : Int) then (if (rd x7 x15) < (x5.length : Int) then (laws_FnProbe.l0 k x0 x5 x7 x8 (x13.set ((rd x7 x15) : Int).toNat true) (wrap64 (x14 + x16)) (wrap64 (x15 + 1)) ((rd_T45 x5 (rd x7 x15)).f0) ((rd_T45 x5 (rd x7 x15)).f1)) else (none)) else (none)) else (none)) else (none)) else (none))
def laws_FnProbe.j5 : Nat → List Int → List (S45) → List Int → Int → List Bool → Int → Int → Int → Int → Int → Int → Option (Bool)
 | 0, _, _, _, _, _, _, _, _, _, _, _ => none
 | k + 1, x0, x5, x7, x8, x13, x14, x15, x16, x17, x280000, x280001 => laws_FnProbe.l1 k x0 x5 x7 x8 x13 x14 x15 x16 (wrap64 (x17 + 1)) x280000 x280001
def laws_FnProbe.j6 : Nat → Bool → Option (Bool)
 | 0, _ => none
 | k + 1, x4 => some x4
def laws_FnProbe.j7 : Nat → Bool → Option (Bool)
 | 0, _ => none
 | k + 1, x4 => some x4
def laws_FnProbe.j8 : Nat → Bool → Option (Bool)
 | 0, _ => none
 | k + 1, x4 => some x4
def laws_FnProbe.j9 : Nat → Bool → Option (Bool)
 | 0, _ => none
 | k + 1, x4 => some x4
end
def laws_FnProbe.f (k : Nat) (l0 : List Int) (l1 : List Int) : Option (Bool) := if (l0.length : Int) > 1048576 then (laws_FnProbe.j0 k l0 l1 true) else (laws_FnProbe.j0 k l0 l1 (decide ((l1.length : Int) > 1048576)))
theorem laws_FnProbe.mono_l : ∀ k, (∀ y0 y1 y2, LeO (laws_FnProbe.j0 k y0 y1 y2) (laws_FnProbe.j0 (k + 1) y0 y1 y2)) ∧ (∀ y0 y1 y2 y3 y4 y5 y6, LeO (laws_FnProbe.j1 k y0 y1 y2 y3 y4 y5 y6) (laws_FnProbe.j1 (k + 1) y0 y1 y2 y3 y4 y5 y6)) ∧ (∀ y0 y1 y2 y3 y4 y5 y6 y7 y8, LeO (laws_FnProbe.l0 k y0 y1 y2 y3 y4 y5 y6 y7 y8) (laws_FnProbe.l0 (k + 1) y0 y1 y2 y3 y4 y5 y6 y7 y8)) ∧ (∀ y0 y1 y2 y3 y4 y5 y6 y7 y8 y9, LeO (laws_FnProbe.j3 k y0 y1 y2 y3 y4 y5 y6 y7 y8 y9) (laws_FnProbe.j3 (k + 1) y0 y1 y2 y3 y4 y5 y6 y7 y8 y9)) ∧ (∀ y0 y1 y2 y3 y4 y5 y6 y7 y8 y9 y10, LeO (laws_FnProbe.l1 k y0 y1 y2 y3 y4 y5 y6 y7 y8 y9 y10) (laws_FnProbe.l1 (k + 1) y0 y1 y2 y3 y4 y5 y6 y7 y8 y9 y10)) ∧ (∀ y0 y1 y2 y3 y4 y5 y6 y7 y8 y9 y10, LeO (laws_FnProbe.j5 k y0 y1 y2 y3 y4 y5 y6 y7 y8 y9 y10) (laws_FnProbe.j5 (k + 1) y0 y1 y2 y3 y4 y5 y6 y7 y8 y9 y10)) ∧ (∀ y0, LeO (laws_FnProbe.j6 k y0) (laws_FnProbe.j6 (k + 1) y0)) ∧ (∀ y0, LeO (laws_FnProbe.j7 k y0) (laws_FnProbe.j7 (k + 1) y0)) ∧ (∀ y0, LeO (laws_FnProbe.j8 k y0) (laws_FnProbe.j8 (k + 1) y0)) ∧ (∀ y0, LeO (laws_FnProbe.j9 k y0) (laws_FnProbe.j9 (k + 1) y0))
 | 0 => ⟨fun _ _ _ r h => by simp [laws_FnProbe.j0] at h, fun _ _ _ _ _ _ _ r h => by simp [laws_FnProbe.j1] at h, fun _ _ _ _ _ _ _ _ _ r h => by simp [laws_FnProbe.l0] at h, fun _ _ _ _ _ _ _ _ _ _ r h => by simp [laws_FnProbe.j3] at h, fun _ _ _ _ _ _ _ _ _ _ _ r h => by simp [laws_FnProbe.l1] at h, fun _ _ _ _ _ _ _ _ _ _ _ r h => by simp [laws_FnProbe.j5] at h, fun _ r h => by simp [laws_FnProbe.j6] at h, fun _ r h => by simp [laws_FnProbe.j7] at h, fun _ r h => by simp [laws_FnProbe.j8] at h, fun _ r h => by simp [laws_FnProbe.j9] at h⟩
 | k + 1 => by
  obtain ⟨ih0, ih1, ih2, ih3, ih4, ih5, ih6, ih7, ih8, ih9⟩ := laws_FnProbe.mono_l k
  refine ⟨?_, ?_, ?_, ?_, ?_, ?_, ?_, ?_, ?_, ?_⟩
  ·intro y0 y1 y2
   unfold laws_FnProbe.j0
   repeat' first
   | (with_reducible exact ih0 _ _ _)
   | (with_reducible exact ih1 _ _ _ _ _ _ _)
   | (with_reducible exact ih2 _ _ _ _ _ _ _ _ _)
   | (with_reducible exact ih3 _ _ _ _ _ _ _ _ _ _)
   | (with_reducible exact ih4 _ _ _ _ _ _ _ _ _ _ _)
   | (with_reducible exact ih5 _ _ _ _ _ _ _ _ _ _ _)
   | (with_reducible exact ih6 _)
   | (with_reducible exact ih7 _)
   | (with_reducible exact ih8 _)
   | (with_reducible exact ih9 _)
   | (with_reducible exact impl_Probing.mono _ _ _ _)
   | (with_reducible exact laws_sameInts.mono _ _ _)
   | (with_reducible exact spec_Judge.mono _ _ _ _ _)
   | (with_reducible exact spec_PointsOf.mono _ _)
   | (with_reducible exact spec_Probing.mono _ _ _ _)
   | (with_reducible exact LeO.refl _)
   | (with_reducible exact LeO.none _)
   | (with_reducible refine LeO.ite ?_ ?_)
   | (with_reducible refine LeO.bind ?_ (fun _ => ?_))
   | exact ih0 _ _ _
   | exact ih1 _ _ _ _ _ _ _
   | exact ih2 _ _ _ _ _ _ _ _ _
   | exact ih3 _ _ _ _ _ _ _ _ _ _
   | exact ih4 _ _ _ _ _ _ _ _ _ _ _
   | exact ih5 _ _ _ _ _ _ _ _ _ _ _
   | exact ih6 _
   | exact ih7 _
   | exact ih8 _
   | exact ih9 _
   | exact impl_Probing.mono _ _ _ _
   | exact laws_sameInts.mono _ _ _
   | exact spec_Judge.mono _ _ _ _ _
   | exact spec_PointsOf.mono _ _
   | exact spec_Probing.mono _ _ _ _
   | exact LeO.none _
   | refine LeO.ite ?_ ?_
   | refine LeO.bind ?_ (fun _ => ?_)
  ·intro y0 y1 y2 y3 y4 y5 y6
   unfold laws_FnProbe.j1
   repeat' first
   | (with_reducible exact ih0 _ _ _)
   | (with_reducible exact ih1 _ _ _ _ _ _ _)
   | (with_reducible exact ih2 _ _ _ _ _ _ _ _ _)
   | (with_reducible exact ih3 _ _ _ _ _ _ _ _ _ _)
   | (with_reducible exact ih4 _ _ _ _ _ _ _ _ _ _ _)
   | (with_reducible exact ih5 _ _ _ _ _ _ _ _ _ _ _)
   | (with_reducible exact ih6 _)
   | (with_reducible exact ih7 _)
   | (with_reducible exact ih8 _)
   | (with_reducible exact ih9 _)
   | (with_reducible exact impl_Probing.mono _ _ _ _)
   | (with_reducible exact laws_sameInts.mono _ _ _)
   | (with_reducible exact spec_Judge.mono _ _ _ _ _)
   | (with_reducible exact spec_PointsOf.mono _ _)
   | (with_reducible exact spec_Probing.mono _ _ _ _)
   | (with_reducible exact LeO.refl _)
   | (with_reducible exact LeO.none _)
   | (with_reducible refine LeO.ite ?_ ?_)
   | (with_reducible refine LeO.bind ?_ (fun _ => ?_))
   | exact ih0 _ _ _
   | exact ih1 _ _ _ _ _ _ _
   | exact ih2 _ _ _ _ _ _ _ _ _
   | exact ih3 _ _ _ _ _ _ _ _ _ _
   | exact ih4 _ _ _ _ _ _ _ _ _ _ _
   | exact ih5 _ _ _ _ _ _ _ _ _ _ _
   | exact ih6 _
   | exact ih7 _
   | exact ih8 _
   | exact ih9 _
   | exact impl_Probing.mono _ _ _ _
   | exact laws_sameInts.mono _ _ _
   | exact spec_Judge.mono _ _ _ _ _
   | exact spec_PointsOf.mono _ _
   | exact spec_Probing.mono _ _ _ _
   | exact LeO.none _
   | refine LeO.ite ?_ ?_
   | refine LeO.bind ?_ (fun _ => ?_)
  ·intro y0 y1 y2 y3 y4 y5 y6 y7 y8
   unfold laws_FnProbe.l0
   repeat' first
   | (with_reducible exact ih0 _ _ _)
   | (with_reducible exact ih1 _ _ _ _ _ _ _)
   | (with_reducible exact ih2 _ _ _ _ _ _ _ _ _)
   | (with_reducible exact ih3 _ _ _ _ _ _ _ _ _ _)
   | (with_reducible exact ih4 _ _ _ _ _ _ _ _ _ _ _)
   | (with_reducible exact ih5 _ _ _ _ _ _ _ _ _ _ _)
   | (with_reducible exact ih6 _)
   | (with_reducible exact ih7 _)
   | (with_reducible exact ih8 _)
   | (with_reducible exact ih9 _)
   | (with_reducible exact impl_Probing.mono _ _ _ _)
   | (with_reducible exact laws_sameInts.mono _ _ _)
   | (with_reducible exact spec_Judge.mono _ _ _ _ _)
   | (with_reducible exact spec_PointsOf.mono _ _)
   | (with_reducible exact spec_Probing.mono _ _ _ _)
   | (with_reducible exact LeO.refl _)
   | (with_reducible exact LeO.none _)
   | (with_reducible refine LeO.ite ?_ ?_)
   | (with_reducible refine LeO.bind ?_ (fun _ => ?_))
   | exact ih0 _ _ _
   | exact ih1 _ _ _ _ _ _ _
   | exact ih2 _ _ _ _ _ _ _ _ _
   | exact ih3 _ _ _ _ _ _ _ _ _ _
   | exact ih4 _ _ _ _ _ _ _ _ _ _ _
   | exact ih5 _ _ _ _ _ _ _ _ _ _ _
   | exact ih6 _
   | exact ih7 _
   | exact ih8 _
   | exact ih9 _
   | exact impl_Probing.mono _ _ _ _
   | exact laws_sameInts.mono _ _ _
   | exact spec_Judge.mono _ _ _ _ _
   | exact spec_PointsOf.mono _ _
   | exact spec_Probing.mono _ _ _ _
   | exact LeO.none _
   | refine LeO.ite ?_ ?_
   | refine LeO.bind ?_ (fun _ => ?_)
  ·intro y0 y1 y2 y3 y4 y5 y6 y7 y8 y9
   unfold laws_FnProbe.j3
   repeat' first
   | (with_reducible exact ih0 _ _ _)
   | (with_reducible exact ih1 _ _ _ _ _ _ _)
   | (with_reducible exact ih2 _ _ _ _ _ _ _ _ _)
   | (with_reducible exact ih3 _ _ _ _ _ _ _ _ _ _)
   | (with_reducible exact ih4 _ _ _ _ _ _ _ _ _ _ _)
   | (with_reducible exact ih5 _ _ _ _ _ _ _ _ _ _ _)
   | (with_reducible exact ih6 _)
   | (with_reducible exact ih7 _)
   | (with_reducible exact ih8 _)
   | (with_reducible exact ih9 _)
   | (with_reducible exact impl_Probing.mono _ _ _ _)
   | (with_reducible exact laws_sameInts.mono _ _ _)
   | (with_reducible exact spec_Judge.mono _ _ _ _ _)
   | (with_reducible exact spec_PointsOf.mono _ _)
   | (with_reducible exact spec_Probing.mono _ _ _ _)
   | (with_reducible exact LeO.refl _)
   | (with_reducible exact LeO.none _)
   | (with_reducible refine LeO.ite ?_ ?_)
   | (with_reducible refine LeO.bind ?_ (fun _ => ?_))
   | exact ih0 _ _ _
   | exact ih1 _ _ _ _ _ _ _
   | exact ih2 _ _ _ _ _ _ _ _ _
   | exact ih3 _ _ _ _ _ _ _ _ _ _
   | exact ih4 _ _ _ _ _ _ _ _ _ _ _
   | exact ih5 _ _ _ _ _ _ _ _ _ _ _
   | exact ih6 _
   | exact ih7 _
   | exact ih8 _
   | exact ih9 _
   | exact impl_Probing.mono _ _ _ _
   | exact laws_sameInts.mono _ _ _
   | exact spec_Judge.mono _ _ _ _ _
   | exact spec_PointsOf.mono _ _
   | exact spec_Probing.mono _ _ _ _
   | exact LeO.none _
   | refine LeO.ite ?_ ?_
   | refine LeO.bind ?_ (fun _ => ?_)
  ·intro y0 y1 y2 y3 y4 y5 y6 y7 y8 y9 y10
   unfold laws_FnProbe.l1
   repeat' first
   | (with_reducible exact ih0 _ _ _)
   | (with_reducible exact ih1 _ _ _ _ _ _ _)
   | (with_reducible exact ih2 _ _ _ _ _ _ _ _ _)
   | (with_reducible exact ih3 _ _ _ _ _ _ _ _ _ _)
   | (with_reducible exact ih4 _ _ _ _ _ _ _ _ _ _ _)
   | (with_reducible exact ih5 _ _ _ _ _ _ _ _ _ _ _)
   | (with_reducible exact ih6 _)
   | (with_reducible exact ih7 _)
   | (with_reducible exact ih8 _)
   | (with_reducible exact ih9 _)
   | (with_reducible exact impl_Probing.mono _ _ _ _)
   | (with_reducible exact laws_sameInts.mono _ _ _)
   | (with_reducible exact spec_Judge.mono _ _ _ _ _)
   | (with_reducible exact spec_PointsOf.mono _ _)
   | (with_reducible exact spec_Probing.mono _ _ _ _)
   | (with_reducible exact LeO.refl _)
   | (with_reducible exact LeO.none _)
   | (with_reducible refine LeO.ite ?_ ?_)
   | (with_reducible refine LeO.bind ?_ (fun _ => ?_))
   | exact ih0 _ _ _
   | exact ih1 _ _ _ _ _ _ _
   | exact ih2 _ _ _ _ _ _ _ _ _
   | exact ih3 _ _ _ _ _ _ _ _ _ _
   | exact ih4 _ _ _ _ _ _ _ _ _ _ _
   | exact ih5 _ _ _ _ _ _ _ _ _ _ _
   | exact ih6 _
   | exact ih7 _
   | exact ih8 _
   | exact ih9 _
   | exact impl_Probing.mono _ _ _ _
   | exact laws_sameInts.mono _ _ _
   | exact spec_Judge.mono _ _ _ _ _
   | exact spec_PointsOf.mono _ _
   | exact spec_Probing.mono _ _ _ _
   | exact LeO.none _
   | refine LeO.ite ?_ ?_
   | refine LeO.bind ?_ (fun _ => ?_)
  ·intro y0 y1 y2 y3 y4 y5 y6 y7 y8 y9 y10
   unfold laws_FnProbe.j5
   repeat' first
   | (with_reducible exact ih0 _ _ _)
   | (with_reducible exact ih1 _ _ _ _ _ _ _)
   | (with_reducible exact ih2 _ _ _ _ _ _ _ _ _)
   | (with_reducible exact ih3 _ _ _ _ _ _ _ _ _ _)
   | (with_reducible exact ih4 _ _ _ _ _ _ _ _ _ _ _)
   | (with_reducible exact ih5 _ _ _ _ _ _ _ _ _ _ _)
   | (with_reducible exact ih6 _)
   | (with_reducible exact ih7 _)
   | (with_reducible exact ih8 _)
   | (with_reducible exact ih9 _)
   | (with_reducible exact impl_Probing.mono _ _ _ _)
   | (with_reducible exact laws_sameInts.mono _ _ _)
   | (with_reducible exact spec_Judge.mono _ _ _ _ _)
   | (with_reducible exact spec_PointsOf.mono _ _)
   | (with_reducible exact spec_Probing.mono _ _ _ _)
   | (with_reducible exact LeO.refl _)
   | (with_reducible exact LeO.none _)
   | (with_reducible refine LeO.ite ?_ ?_)
   | (with_reducible refine LeO.bind ?_ (fun _ => ?_))
   | exact ih0 _ _ _
   | exact ih1 _ _ _ _ _ _ _
   | exact ih2 _ _ _ _ _ _ _ _ _
   | exact ih3 _ _ _ _ _ _ _ _ _ _
   | exact ih4 _ _ _ _ _ _ _ _ _ _ _
   | exact ih5 _ _ _ _ _ _ _ _ _ _ _
   | exact ih6 _
   | exact ih7 _
   | exact ih8 _
   | exact ih9 _
   | exact impl_Probing.mono _ _ _ _
   | exact laws_sameInts.mono _ _ _
   | exact spec_Judge.mono _ _ _ _ _
   | exact spec_PointsOf.mono _ _
   | exact spec_Probing.mono _ _ _ _
   | exact LeO.none _
   | refine LeO.ite ?_ ?_
   | refine LeO.bind ?_ (fun _ => ?_)
  ·intro y0
   unfold laws_FnProbe.j6
   repeat' first
   | (with_reducible exact ih0 _ _ _)
   | (with_reducible exact ih1 _ _ _ _ _ _ _)
   | (with_reducible exact ih2 _ _ _ _ _ _ _ _ _)
   | (with_reducible exact ih3 _ _ _ _ _ _ _ _ _ _)
   | (with_reducible exact ih4 _ _ _ _ _ _ _ _ _ _ _)
   | (with_reducible exact ih5 _ _ _ _ _ _ _ _ _ _ _)
   | (with_reducible exact ih6 _)
   | (with_reducible exact ih7 _)
   | (with_reducible exact ih8 _)
   | (with_reducible exact ih9 _)
   | (with_reducible exact impl_Probing.mono _ _ _ _)
   | (with_reducible exact laws_sameInts.mono _ _ _)
   | (with_reducible exact spec_Judge.mono _ _ _ _ _)
   | (with_reducible exact spec_PointsOf.mono _ _)
   | (with_reducible exact spec_Probing.mono _ _ _ _)
   | (with_reducible exact LeO.refl _)
   | (with_reducible exact LeO.none _)
   | (with_reducible refine LeO.ite ?_ ?_)
   | (with_reducible refine LeO.bind ?_ (fun _ => ?_))
   | exact ih0 _ _ _
   | exact ih1 _ _ _ _ _ _ _
   | exact ih2 _ _ _ _ _ _ _ _ _
   | exact ih3 _ _ _ _ _ _ _ _ _ _
   | exact ih4 _ _ _ _ _ _ _ _ _ _ _
   | exact ih5 _ _ _ _ _ _ _ _ _ _ _
   | exact ih6 _
   | exact ih7 _
   | exact ih8 _
   | exact ih9 _
   | exact impl_Probing.mono _ _ _ _
   | exact laws_sameInts.mono _ _ _
   | exact spec_Judge.mono _ _ _ _ _
   | exact spec_PointsOf.mono _ _
   | exact spec_Probing.mono _ _ _ _
   | exact LeO.none _
   | refine LeO.ite ?_ ?_
   | refine LeO.bind ?_ (fun _ => ?_)
  ·intro y0
   unfold laws_FnProbe.j7
   repeat' first
   | (with_reducible exact ih0 _ _ _)
   | (with_reducible exact ih1 _ _ _ _ _ _ _)
   | (with_reducible exact ih2 _ _ _ _ _ _ _ _ _)
   | (with_reducible exact ih3 _ _ _ _ _ _ _ _ _ _)
   | (with_reducible exact ih4 _ _ _ _ _ _ _ _ _ _ _)
   | (with_reducible exact ih5 _ _ _ _ _ _ _ _ _ _ _)
   | (with_reducible exact ih6 _)
   | (with_reducible exact ih7 _)
   | (with_reducible exact ih8 _)
   | (with_reducible exact ih9 _)
   | (with_reducible exact impl_Probing.mono _ _ _ _)
   | (with_reducible exact laws_sameInts.mono _ _ _)
   | (with_reducible exact spec_Judge.mono _ _ _ _ _)
   | (with_reducible exact spec_PointsOf.mono _ _)
   | (with_reducible exact spec_Probing.mono _ _ _ _)
   | (with_reducible exact LeO.refl _)
   | (with_reducible exact LeO.none _)
   | (with_reducible refine LeO.ite ?_ ?_)
   | (with_reducible refine LeO.bind ?_ (fun _ => ?_))
   | exact ih0 _ _ _
   | exact ih1 _ _ _ _ _ _ _
   | exact ih2 _ _ _ _ _ _ _ _ _
   | exact ih3 _ _ _ _ _ _ _ _ _ _
   | exact ih4 _ _ _ _ _ _ _ _ _ _ _
   | exact ih5 _ _ _ _ _ _ _ _ _ _ _
   | exact ih6 _
   | exact ih7 _
   | exact ih8 _
   | exact ih9 _
   | exact impl_Probing.mono _ _ _ _
   | exact laws_sameInts.mono _ _ _
   | exact spec_Judge.mono _ _ _ _ _
   | exact spec_PointsOf.mono _ _
   | exact spec_Probing.mono _ _ _ _
   | exact LeO.none _
   | refine LeO.ite ?_ ?_
   | refine LeO.bind ?_ (fun _ => ?_)
  ·intro y0
   unfold laws_FnProbe.j8
   repeat' first
   | (with_reducible exact ih0 _ _ _)
   | (with_reducible exact ih1 _ _ _ _ _ _ _)
   | (with_reducible exact ih2 _ _ _ _ _ _ _ _ _)
   | (with_reducible exact ih3 _ _ _ _ _ _ _ _ _ _)
   | (with_reducible exact ih4 _ _ _ _ _ _ _ _ _ _ _)
   | (with_reducible exact ih5 _ _ _ _ _ _ _ _ _ _ _)
   | (with_reducible exact ih6 _)
   | (with_reducible exact ih7 _)
   | (with_reducible exact ih8 _)
   | (with_reducible exact ih9 _)
   | (with_reducible exact impl_Probing.mono _ _ _ _)
   | (with_reducible exact laws_sameInts.mono _ _ _)
   | (with_reducible exact spec_Judge.mono _ _ _ _ _)
   | (with_reducible exact spec_PointsOf.mono _ _)
   | (with_reducible exact spec_Probing.mono _ _ _ _)
   | (with_reducible exact LeO.refl _)
   | (with_reducible exact LeO.none _)
   | (with_reducible refine LeO.ite ?_ ?_)
   | (with_reducible refine LeO.bind ?_ (fun _ => ?_))
   | exact ih0 _ _ _
   | exact ih1 _ _ _ _ _ _ _
   | exact ih2 _ _ _ _ _ _ _ _ _
   | exact ih3 _ _ _ _ _ _ _ _ _ _
   | exact ih4 _ _ _ _ _ _ _ _ _ _ _
   | exact ih5 _ _ _ _ _ _ _ _ _ _ _
   | exact ih6 _
   | exact ih7 _
   | exact ih8 _
   | exact ih9 _
   | exact impl_Probing.mono _ _ _ _
   | exact laws_sameInts.mono _ _ _
   | exact spec_Judge.mono _ _ _ _ _
   | exact spec_PointsOf.mono _ _
   | exact spec_Probing.mono _ _ _ _
   | exact LeO.none _
   | refine LeO.ite ?_ ?_
   | refine LeO.bind ?_ (fun _ => ?_)
  ·intro y0
   unfold laws_FnProbe.j9
   repeat' first
   | (with_reducible exact ih0 _ _ _)
   | (with_reducible exact ih1 _ _ _ _ _ _ _)
   | (with_reducible exact ih2 _ _ _ _ _ _ _ _ _)
   | (with_reducible exact ih3 _ _ _ _ _ _ _ _ _ _)
   | (with_reducible exact ih4 _ _ _ _ _ _ _ _ _ _ _)
   | (with_reducible exact ih5 _ _ _ _ _ _ _ _ _ _ _)
   | (with_reducible exact ih6 _)
   | (with_reducible exact ih7 _)
   | (with_reducible exact ih8 _)
   | (with_reducible exact ih9 _)
   | (with_reducible exact impl_Probing.mono _ _ _ _)
   | (with_reducible exact laws_sameInts.mono _ _ _)
   | (with_reducible exact spec_Judge.mono _ _ _ _ _)
   | (with_reducible exact spec_PointsOf.mono _ _)
   | (with_reducible exact spec_Probing.mono _ _ _ _)
   | (with_reducible exact LeO.refl _)
   | (with_reducible exact LeO.none _)
   | (with_reducible refine LeO.ite ?_ ?_)
   | (with_reducible refine LeO.bind ?_ (fun _ => ?_))
   | exact ih0 _ _ _
   | exact ih1 _ _ _ _ _ _ _
   | exact ih2 _ _ _ _ _ _ _ _ _
   | exact ih3 _ _ _ _ _ _ _ _ _ _
   | exact ih4 _ _ _ _ _ _ _ _ _ _ _
   | exact ih5 _ _ _ _ _ _ _ _ _ _ _
   | exact ih6 _
   | exact ih7 _
   | exact ih8 _
   | exact ih9 _
   | exact impl_Probing.mono _ _ _ _
   | exact laws_sameInts.mono _ _ _
   | exact spec_Judge.mono _ _ _ _ _
   | exact spec_PointsOf.mono _ _
   | exact spec_Probing.mono _ _ _ _
   | exact LeO.none _
   | refine LeO.ite ?_ ?_
   | refine LeO.bind ?_ (fun _ => ?_)
theorem laws_FnProbe.mono : ∀ a0 a1 k, LeO (laws_FnProbe.f k a0 a1) (laws_FnProbe.f (k + 1) a0 a1) := by
 intro a0 a1 k
 obtain ⟨ih0, ih1, ih2, ih3, ih4, ih5, ih6, ih7, ih8, ih9⟩ := laws_FnProbe.mono_l k
 unfold laws_FnProbe.f
 repeat' first
   | (with_reducible exact ih0 _ _ _)
   | (with_reducible exact ih1 _ _ _ _ _ _ _)
   | (with_reducible exact ih2 _ _ _ _ _ _ _ _ _)
   | (with_reducible exact ih3 _ _ _ _ _ _ _ _ _ _)
   | (with_reducible exact ih4 _ _ _ _ _ _ _ _ _ _ _)
   | (with_reducible exact ih5 _ _ _ _ _ _ _ _ _ _ _)
   | (with_reducible exact ih6 _)
   | (with_reducible exact ih7 _)
   | (with_reducible exact ih8 _)
   | (with_reducible exact ih9 _)
   | (with_reducible exact impl_Probing.mono _ _ _ _)
   | (with_reducible exact laws_sameInts.mono _ _ _)
   | (with_reducible exact spec_Judge.mono _ _ _ _ _)
   | (with_reducible exact spec_PointsOf.mono _ _)
   | (with_reducible exact spec_Probing.mono _ _ _ _)
   | (with_reducible exact LeO.refl _)
   | (with_reducible exact LeO.none _)
   | (with_reducible refine LeO.ite ?_ ?_)
   | (with_reducible refine LeO.bind ?_ (fun _ => ?_))
   | exact ih0 _ _ _
   | exact ih1 _ _ _ _ _ _ _
   | exact ih2 _ _ _ _ _ _ _ _ _
   | exact ih3 _ _ _ _ _ _ _ _ _ _
   | exact ih4 _ _ _ _ _ _ _ _ _ _ _
   | exact ih5 _ _ _ _ _ _ _ _ _ _ _
   | exact ih6 _
   | exact ih7 _
   | exact ih8 _
   | exact ih9 _
   | exact impl_Probing.mono _ _ _ _
   | exact laws_sameInts.mono _ _ _
   | exact spec_Judge.mono _ _ _ _ _
   | exact spec_PointsOf.mono _ _
   | exact spec_Probing.mono _ _ _ _
   | exact LeO.none _
   | refine LeO.ite ?_ ?_
   | refine LeO.bind ?_ (fun _ => ?_)
set_option maxHeartbeats 8000000 in
set_option maxRecDepth 100000 in
theorem laws_FnProbe.calls (k : Nat) (A0 : Option Addr) (c0 : Nat) (l0 : List Int) (A1 : Option Addr) (c1 : Nat) (l1 : List Int) (r : Bool) (w : World) (hr0 : Kd.C (Kd.int .u8) w A0 l0.length l0) (hc0 : l0.length ≤ c0) (hr1 : Kd.C (Kd.int .u8) w A1 l1.length l1) (hc1 : l1.length ≤ c1) (h : laws_FnProbe.f k l0 l1 = some r) :
  Calls Try.prog 5 #[.slice A0 l0.length c0, .slice A1 l1.length c1] w fun e w' => e = .returned (.bool r) ∧ Below w.heap.size w w' := by
 have hu45 := Try.underlying45
 have HR0 := Aside0.mk hr0
 have HC0 := Aside0.mk hc0
 clear hr0 hc0
 have HR1 := Aside0.mk hr1
 have HC1 := Aside0.mk hc1
 clear hr1 hc1
 have HB := Aside0.mk (Below.refl w.heap.size w)
 have H : (if (l0.length : Int) > 1048576 then (laws_FnProbe.j0 k l0 l1 true) else (laws_FnProbe.j0 k l0 l1 (decide ((l1.length : Int) > 1048576)))) = some r := h
 clear h
 have HC3 := Aside0.mk H
 clear H
 go_enter Try.func5, Try.ntmps5
 go_upto_region 1 with (fail)
 repeat (go_quiet (fail); go_upto_region 1 with (fail))
 go_cut [35] (fun v35 wc => ∃ (kq : Nat) (x35_2 : Bool), v35 = .bool x35_2 ∧ Aside0 (laws_FnProbe.j0 kq l0 l1 x35_2 = some r) ∧ Aside0 (kq ≤ k) ∧ Aside0 (Below w.heap.size w wc))
 case first => as_aux_lemma =>
  have H := HC3.out
  clear HC3
  by_cases c4 : (l0.length : Int) > 1048576
  ·rw [if_pos c4] at H
   have c4b0 : decide (1048576 < (l0.length : Int)) = true := decide_eq_true c4
   have c4b1 : decide (1048576 < l0.length) = true := decide_eq_true (by omega)
   clear c4
   (first | rw [c4b0] | (simp only [i64_w, i32_w]; rw [c4b0]) | skip)
   have H' := Aside0.mk H
   clear H
   go_wp2
   repeat (go_quiet (fail); try go_wp2)
   go_meet
   case rel => exact ⟨_, (true), (by first | rfl | (simp; done) | (simp [*]; done)), H', ⟨by first | omega | exact Nat.le_refl _⟩, ⟨by repeat (first | (with_reducible first | exact HB.out | apply below_alloc | apply pw_below_drewN | apply below_drew1) | exact HB.out)⟩⟩
  ·rw [if_neg c4] at H
   have c4b0 : decide (1048576 < (l0.length : Int)) = false := decide_eq_false c4
   have c4b1 : decide (1048576 < l0.length) = false := decide_eq_false (by omega)
   clear c4
   (first | rw [c4b0] | (simp only [i64_w, i32_w]; rw [c4b0]) | skip)
   have H' := Aside0.mk H
   clear H
   go_wp2
   repeat (go_quiet (fail); try go_wp2)
   go_meet
   case rel => exact ⟨_, (decide ((l1.length : Int) > 1048576)), (by first | rfl | (simp; done) | (simp [*]; done)), H', ⟨by first | omega | exact Nat.le_refl _⟩, ⟨by repeat (first | (with_reducible first | exact HB.out | apply below_alloc | apply pw_below_drewN | apply below_drew1) | exact HB.out)⟩⟩
 case rest => as_aux_lemma =>
  clear HC3
  try clear c1
  try clear p2
  try clear c4
  try clear c4b0
  try clear c4b1
  obtain ⟨kq, x35_2, rfl, HA, HJ2, HB⟩ := hcut
  cases kq with
  | zero => exact absurd HA.out (by simp [laws_FnProbe.j0])
  | succ kj2 =>
   have H := HA.out
   clear HA
   simp only [laws_FnProbe.j0] at H
   by_cases c5 : x35_2 = true
   ·subst c5
    have H1 : (some true) = some r := by rw [if_pos rfl] at H; exact H
    clear H
    have H := H1
    clear H1
    obtain rfl := Option.some.inj H
    go_wp2
    repeat (go_quiet (fail); try go_wp2)
    go_ret
    exact ⟨by first | rfl | (simp [errW_none, errW_some] <;> rfl) | (simp [*, errW_none, errW_some] <;> rfl), by repeat (first | (with_reducible first | exact HB.out | apply below_alloc | apply pw_below_drewN | apply below_drew1) | exact HB.out)⟩
   ·replace c5 := Bool.eq_false_iff.mpr c5
    subst c5
    have H1 : ((spec_PointsOf.f kj2 l0).bind fun t274 => ((laws_at.f l1 0 (t274.length : Int)).bind fun t277 => (if 0 ≤ t277 then (if t277 < (t274.length : Int) then ((impl_Probing.f kj2 t274 ((rd_T45 t274 t277).f0) ((rd_T45 t274 t277).f1)).bind fun bt280 => ((spec_Probing.f kj2 t274 ((rd_T45 t274 t277).f0) ((rd_T45 t274 t277).f1)).bind fun bt285 => (if bt280.2.2 = 0 then ((laws_sameInts.f kj2 bt280.1 bt285.1).bind fun t290 => (if t290 = true then (if bt280.2.1 = bt285.2.1 then (laws_FnProbe.j1 kj2 l0 t274 bt280.1 bt280.2.1 ((bt280.1.length : Int) != (t274.length : Int)) ((rd_T45 t274 t277).f0) ((rd_T45 t274 t277).f1)) else (laws_FnProbe.j1 kj2 l0 t274 bt280.1 bt280.2.1 true ((rd_T45 t274 t277).f0) ((rd_T45 t274 t277).f1))) else (laws_FnProbe.j1 kj2 l0 t274 bt280.1 bt280.2.1 true ((rd_T45 t274 t277).f0) ((rd_T45 t274 t277).f1)))) else (laws_FnProbe.j1 kj2 l0 t274 bt280.1 bt280.2.1 true ((rd_T45 t274 t277).f0) ((rd_T45 t274 t277).f1))))) else (none)) else (none)))) = some r := by rw [if_neg (show ¬ (false = true) by decide)] at H; exact H
    clear H
    have H := H1
    clear H1
    replace H := Option.bind_eq_some_iff.mp H
    obtain ⟨t274, A60, H⟩ := H
    replace H : ((laws_at.f l1 0 (t274.length : Int)).bind fun t277 => (if 0 ≤ t277 then (if t277 < (t274.length : Int) then ((impl_Probing.f kj2 t274 ((rd_T45 t274 t277).f0) ((rd_T45 t274 t277).f1)).bind fun bt280 => ((spec_Probing.f kj2 t274 ((rd_T45 t274 t277).f0) ((rd_T45 t274 t277).f1)).bind fun bt285 => (if bt280.2.2 = 0 then ((laws_sameInts.f kj2 bt280.1 bt285.1).bind fun t290 => (if t290 = true then (if bt280.2.1 = bt285.2.1 then (laws_FnProbe.j1 kj2 l0 t274 bt280.1 bt280.2.1 ((bt280.1.length : Int) != (t274.length : Int)) ((rd_T45 t274 t277).f0) ((rd_T45 t274 t277).f1)) else (laws_FnProbe.j1 kj2 l0 t274 bt280.1 bt280.2.1 true ((rd_T45 t274 t277).f0) ((rd_T45 t274 t277).f1))) else (laws_FnProbe.j1 kj2 l0 t274 bt280.1 bt280.2.1 true ((rd_T45 t274 t277).f0) ((rd_T45 t274 t277).f1)))) else (laws_FnProbe.j1 kj2 l0 t274 bt280.1 bt280.2.1 true ((rd_T45 t274 t277).f0) ((rd_T45 t274 t277).f1))))) else (none)) else (none))) = some r := H
    have A6 := Aside0.mk A60
    clear A60
    replace H := Option.bind_eq_some_iff.mp H
    obtain ⟨t277, A70, H⟩ := H
    replace H : (if 0 ≤ t277 then (if t277 < (t274.length : Int) then ((impl_Probing.f kj2 t274 ((rd_T45 t274 t277).f0) ((rd_T45 t274 t277).f1)).bind fun bt280 => ((spec_Probing.f kj2 t274 ((rd_T45 t274 t277).f0) ((rd_T45 t274 t277).f1)).bind fun bt285 => (if bt280.2.2 = 0 then ((laws_sameInts.f kj2 bt280.1 bt285.1).bind fun t290 => (if t290 = true then (if bt280.2.1 = bt285.2.1 then (laws_FnProbe.j1 kj2 l0 t274 bt280.1 bt280.2.1 ((bt280.1.length : Int) != (t274.length : Int)) ((rd_T45 t274 t277).f0) ((rd_T45 t274 t277).f1)) else (laws_FnProbe.j1 kj2 l0 t274 bt280.1 bt280.2.1 true ((rd_T45 t274 t277).f0) ((rd_T45 t274 t277).f1))) else (laws_FnProbe.j1 kj2 l0 t274 bt280.1 bt280.2.1 true ((rd_T45 t274 t277).f0) ((rd_T45 t274 t277).f1)))) else (laws_FnProbe.j1 kj2 l0 t274 bt280.1 bt280.2.1 true ((rd_T45 t274 t277).f0) ((rd_T45 t274 t277).f1))))) else (none)) else (none)) = some r := H
    have A7 := Aside0.mk A70
    clear A70
    by_cases c8 : 0 ≤ t277
    ·rw [if_pos c8] at H
     have c8b0 : decide (0 ≤ t277) = true := decide_eq_true c8
     clear c8
     by_cases c9 : t277 < (t274.length : Int)
     ·rw [if_pos c9] at H
      have c9b0 : decide (t277 < (t274.length : Int)) = true := decide_eq_true c9
      clear c9
      replace H := Option.bind_eq_some_iff.mp H
      obtain ⟨⟨t280, t283, t284⟩, A100, H⟩ := H
      replace H : ((spec_Probing.f kj2 t274 ((rd_T45 t274 t277).f0) ((rd_T45 t274 t277).f1)).bind fun bt285 => (if t284 = 0 then ((laws_sameInts.f kj2 t280 bt285.1).bind fun t290 => (if t290 = true then (if t283 = bt285.2.1 then (laws_FnProbe.j1 kj2 l0 t274 t280 t283 ((t280.length : Int) != (t274.length : Int)) ((rd_T45 t274 t277).f0) ((rd_T45 t274 t277).f1)) else (laws_FnProbe.j1 kj2 l0 t274 t280 t283 true ((rd_T45 t274 t277).f0) ((rd_T45 t274 t277).f1))) else (laws_FnProbe.j1 kj2 l0 t274 t280 t283 true ((rd_T45 t274 t277).f0) ((rd_T45 t274 t277).f1)))) else (laws_FnProbe.j1 kj2 l0 t274 t280 t283 true ((rd_T45 t274 t277).f0) ((rd_T45 t274 t277).f1)))) = some r := H
      have A10 := Aside0.mk A100
      clear A100
      replace H := Option.bind_eq_some_iff.mp H
      obtain ⟨⟨t285, t288, t289⟩, A110, H⟩ := H
      replace H : (if t284 = 0 then ((laws_sameInts.f kj2 t280 t285).bind fun t290 => (if t290 = true then (if t283 = t288 then (laws_FnProbe.j1 kj2 l0 t274 t280 t283 ((t280.length : Int) != (t274.length : Int)) ((rd_T45 t274 t277).f0) ((rd_T45 t274 t277).f1)) else (laws_FnProbe.j1 kj2 l0 t274 t280 t283 true ((rd_T45 t274 t277).f0) ((rd_T45 t274 t277).f1))) else (laws_FnProbe.j1 kj2 l0 t274 t280 t283 true ((rd_T45 t274 t277).f0) ((rd_T45 t274 t277).f1)))) else (laws_FnProbe.j1 kj2 l0 t274 t280 t283 true ((rd_T45 t274 t277).f0) ((rd_T45 t274 t277).f1))) = some r := H
      have A11 := Aside0.mk A110
      clear A110
      have HC12 := Aside0.mk H
      clear H
      go_upto_region 7 with (first | (go_at_call 26; (with_reducible refine (spec_PointsOf.calls kj2 _ _ l0 t274 _ ?side1 ?side2 A6.out).mono ?_); (case side1 => repeat (first | exact (Kd.C_below HR0.out HB.out) | (with_reducible refine Kd.C_alloc ?_ _) | (with_reducible refine Kd.C_drewN ?_ _) | (with_reducible refine Kd.C_drew ?_))); (case side2 => exact HC0.out); rintro e w13 ⟨v275, rfl, ho0, hb⟩; have n0_ := Aside0.mk (Kd.R_lower ho0 (below_size (by repeat (first | (with_reducible first | exact HB.out | apply below_alloc | apply pw_below_drewN | apply below_drew1) | exact HB.out)))); have n1_ := Aside0.mk (below_step (by repeat (first | (with_reducible first | exact HB.out | apply below_alloc | apply pw_below_drewN | apply below_drew1) | exact HB.out)) hb); clear HB; have HO276 := n0_; have HB := n1_; clear n0_ n1_; (try clear hb); (try clear hb2); (try clear hk); (try clear hi); (try clear ho0); obtain ⟨Ao14, co14, eo14⟩ := Kd.R_slice HO276.out; subst eo14) | (go_at_call 27; (with_reducible refine (laws_at.calls _ _ l1 0 (t274.length : Int) t277 _ ?side1 ?side2 A7.out).mono ?_); (case side1 => repeat (first | exact (Kd.C_below HR1.out HB.out) | (with_reducible refine Kd.C_alloc ?_ _) | (with_reducible refine Kd.C_drewN ?_ _) | (with_reducible refine Kd.C_drew ?_))); (case side2 => exact HC1.out); rintro e w' ⟨rfl, ⟨nd, rfl⟩⟩; (try first | exact ⟨rfl, _, World.drewN_drewN _ _ _⟩ | exact ⟨rfl, _, Eq.trans (World.drewN_drewN _ _ _) (congrArg (World.drewN _) (Nat.add_assoc _ _ _))⟩); have p278 : 0 ≤ (t277 : Int) := of_decide_eq_true (by first | (with_reducible assumption) | assumption); have q278 : t277 < (t274.length : Int) := of_decide_eq_true (by first | (with_reducible assumption) | assumption); obtain ⟨ad278, e278, hx278_0, hx278_1⟩ := at_T45 (Kd.R_reads' HO276.out).2.2 t277 p278 q278; cases e278; replace p278 := eq_true p278; replace q278 := eq_true q278) | ((with_reducible refine gate_dst (N := 6) rfl ?_); (try (refine gate_guard (by rfl) ?_; dsimp only)); refine box_event ?hg (N := 6) ?hd (cs := #[.int .i64 0, .int .i64 0]) (t := 45) ?hr ?_; (case hd => rfl); (case hg => rfl); (case hr => first | (go_simp; done) | (go_simp; rfl)); intro gb279 hg w15 hbox hb; have n0_ := Aside0.mk (Kd.R_below (Kd.R_elderB (by (with_reducible repeat (first | apply Kd.R_alloc | apply Kd.R_drewN | apply Kd.R_drew)); exact HO276.out) gb279 (Nat.le_of_eq hg.symm)) hb); have n1_ := Aside0.mk (below_step (by repeat (first | (with_reducible first | exact HB.out | apply below_alloc | apply pw_below_drewN | apply below_drew1) | exact HB.out)) hb); have n2_ := Aside0.mk (hbox); have n3_ := Aside0.mk ((by rw [hg]; exact (below_size (by repeat (first | (with_reducible first | exact HB.out | apply below_alloc | apply pw_below_drewN | apply below_drew1) | exact HB.out))) : w.heap.size ≤ gb279)); have n4_ := Aside0.mk ((by rw [hg]; exact (below_size (by repeat (first | (with_reducible first | exact HB.out | apply below_alloc | apply pw_below_drewN | apply below_drew1) | exact HB.out))) : w.heap.size ≤ gb279)); clear HO276; clear HB; have HO276 := n0_; have HB := n1_; have BK279 := n2_; have GW279 := n3_; have GE279 := n4_; clear n0_ n1_ n2_ n3_ n4_; clear hb hbox hg; have hcz16_0 : w15.cell? ⟨gb279, 0, none⟩ = some (.int .i64 0) := (blk_cell BK279.out 0).trans rfl; have hcz16_1 : w15.cell? ⟨gb279, 1, none⟩ = some (.int .i64 0) := (blk_cell BK279.out 1).trans rfl; have hfz16_0 := blk_frozen BK279.out 0; have hfz16_1 := blk_frozen BK279.out 1) | (go_at_call 20; (with_reducible refine (impl_Probing.calls kj2 _ _ t274 ((rd_T45 t274 t277).f0) ((rd_T45 t274 t277).f1) t280 t283 t284 _ ?side1 ?side2 A10.out).mono ?_); (case side1 => refine (Kd.R_reads' (e := 45) (base := w.heap.size) (ok := fun k_ => (True ∧ k_ ≠ gb279)) (n := t274.length) (c := co14) ?_).2.2; exact (by (with_reducible repeat (first | apply Kd.R_alloc | apply Kd.R_drewN | apply Kd.R_drew)); exact (Kd.R_mono (Kd.R_far (p := ⟨gb279, 1, none⟩) (Kd.R_far (p := ⟨gb279, 0, none⟩) (Kd.R_mono HO276.out (fun k_ hk => (⟨hk, hk.2⟩ : _ ∧ k_ ≠ gb279))) (fun _ hk => hk.2) (.int .i64 ((rd_T45 t274 t277).f0))) (fun _ hk => hk.2) (.int .i64 ((rd_T45 t274 t277).f1))) (fun _ h_ => h_.1)))); (case side2 => exact (Kd.R_reads' HO276.out).2.1); rintro e w17 ⟨v281, rfl, ho0, hb⟩; have n0_ := Aside0.mk (Kd.R_below (by (with_reducible repeat (first | apply Kd.R_alloc | apply Kd.R_drewN | apply Kd.R_drew)); exact (Kd.R_mono (Kd.R_far (p := ⟨gb279, 1, none⟩) (Kd.R_far (p := ⟨gb279, 0, none⟩) (Kd.R_mono HO276.out (fun k_ hk => (⟨hk, hk.2⟩ : _ ∧ k_ ≠ gb279))) (fun _ hk => hk.2) (.int .i64 ((rd_T45 t274 t277).f0))) (fun _ hk => hk.2) (.int .i64 ((rd_T45 t274 t277).f1))) (fun _ h_ => h_.1))) hb); have n1_ := Aside0.mk (Kd.R_lower ho0 (below_size (by repeat (first | (with_reducible first | exact HB.out | apply below_alloc | apply pw_below_drewN | apply below_drew1 | refine below_set ?_ GE279.out) | exact HB.out)))); have n2_ := Aside0.mk (blk_below (g := gb279) (o := .cells #[.int .i64 ((rd_T45 t274 t277).f0), .int .i64 ((rd_T45 t274 t277).f1)] 45 (0, 0)) (by (with_reducible repeat (first | refine blk_drewN ?_ _ | refine blk_drew ?_ | refine blk_alloc ?_ _)); refine blk_put (cs := #[.int .i64 ((rd_T45 t274 t277).f0), .int .i64 0]) ?_ 1 _ rfl; (with_reducible repeat (first | refine blk_drewN ?_ _ | refine blk_drew ?_ | refine blk_alloc ?_ _)); refine blk_put (cs := #[.int .i64 0, .int .i64 0]) ?_ 0 _ rfl; (with_reducible repeat (first | refine blk_drewN ?_ _ | refine blk_drew ?_ | refine blk_alloc ?_ _)); exact BK279.out) hb); have n3_ := Aside0.mk (below_step (by repeat (first | (with_reducible first | exact HB.out | apply below_alloc | apply pw_below_drewN | apply below_drew1 | refine below_set ?_ GE279.out) | exact HB.out)) hb); clear HO276; clear BK279; clear HB; have HO276 := n0_; have HO282 := n1_; have BK279 := n2_; have HB := n3_; clear n0_ n1_ n2_ n3_; (try clear hb); (try clear hb2); (try clear hk); (try clear hi); (try clear ho0); have hcz18_0 : w17.cell? ⟨gb279, 0, none⟩ = some (.int .i64 ((rd_T45 t274 t277).f0)) := (blk_cell BK279.out 0).trans rfl; have hcz18_1 : w17.cell? ⟨gb279, 1, none⟩ = some (.int .i64 ((rd_T45 t274 t277).f1)) := (blk_cell BK279.out 1).trans rfl; have hfz18_0 := blk_frozen BK279.out 0; have hfz18_1 := blk_frozen BK279.out 1) | (go_at_call 17; (with_reducible refine (spec_Probing.calls kj2 _ _ t274 ((rd_T45 t274 t277).f0) ((rd_T45 t274 t277).f1) t285 t288 t289 _ ?side1 ?side2 A11.out).mono ?_); (case side1 => repeat (first | exact (Kd.R_reads' HO276.out).2.2 | (with_reducible refine Kd.C_alloc ?_ _) | (with_reducible refine Kd.C_drewN ?_ _) | (with_reducible refine Kd.C_drew ?_))); (case side2 => exact (Kd.R_reads' HO276.out).2.1); rintro e w19 ⟨v286, rfl, ho0, hb⟩; have n0_ := Aside0.mk (Kd.R_below (by (with_reducible repeat (first | apply Kd.R_alloc | apply Kd.R_drewN | apply Kd.R_drew)); exact HO276.out) hb); have n1_ := Aside0.mk (Kd.R_elder' (by (with_reducible repeat (first | apply Kd.R_alloc | apply Kd.R_drewN | apply Kd.R_drew)); exact HO282.out) (Kd.R_base ho0) hb); have n2_ := Aside0.mk (Kd.R_lower (Kd.R_new' ho0 (Kd.R_lt (by (with_reducible repeat (first | apply Kd.R_alloc | apply Kd.R_drewN | apply Kd.R_drew)); exact HO282.out))) (below_size (by repeat (first | (with_reducible first | exact HB.out | apply below_alloc | apply pw_below_drewN | apply below_drew1 | refine below_set ?_ GE279.out) | exact HB.out)))); have n3_ := Aside0.mk (blk_below (g := gb279) (o := .cells #[.int .i64 ((rd_T45 t274 t277).f0), .int .i64 ((rd_T45 t274 t277).f1)] 45 (0, 0)) (by (with_reducible repeat (first | refine blk_drewN ?_ _ | refine blk_drew ?_ | refine blk_alloc ?_ _)); exact BK279.out) hb); have n4_ := Aside0.mk (below_step (by repeat (first | (with_reducible first | exact HB.out | apply below_alloc | apply pw_below_drewN | apply below_drew1 | refine below_set ?_ GE279.out) | exact HB.out)) hb); clear HO276; clear HO282; clear BK279; clear HB; have HO276 := n0_; have HO282 := n1_; have HO287 := n2_; have BK279 := n3_; have HB := n4_; clear n0_ n1_ n2_ n3_ n4_; (try clear hb); (try clear hb2); (try clear hk); (try clear hi); (try clear ho0)))
      repeat (go_quiet (first | (go_at_call 26; (with_reducible refine (spec_PointsOf.calls kj2 _ _ l0 t274 _ ?side1 ?side2 A6.out).mono ?_); (case side1 => repeat (first | exact (Kd.C_below HR0.out HB.out) | (with_reducible refine Kd.C_alloc ?_ _) | (with_reducible refine Kd.C_drewN ?_ _) | (with_reducible refine Kd.C_drew ?_))); (case side2 => exact HC0.out); rintro e w13 ⟨v275, rfl, ho0, hb⟩; have n0_ := Aside0.mk (Kd.R_lower ho0 (below_size (by repeat (first | (with_reducible first | exact HB.out | apply below_alloc | apply pw_below_drewN | apply below_drew1) | exact HB.out)))); have n1_ := Aside0.mk (below_step (by repeat (first | (with_reducible first | exact HB.out | apply below_alloc | apply pw_below_drewN | apply below_drew1) | exact HB.out)) hb); clear HB; have HO276 := n0_; have HB := n1_; clear n0_ n1_; (try clear hb); (try clear hb2); (try clear hk); (try clear hi); (try clear ho0); obtain ⟨Ao14, co14, eo14⟩ := Kd.R_slice HO276.out; subst eo14) | (go_at_call 27; (with_reducible refine (laws_at.calls _ _ l1 0 (t274.length : Int) t277 _ ?side1 ?side2 A7.out).mono ?_); (case side1 => repeat (first | exact (Kd.C_below HR1.out HB.out) | (with_reducible refine Kd.C_alloc ?_ _) | (with_reducible refine Kd.C_drewN ?_ _) | (with_reducible refine Kd.C_drew ?_))); (case side2 => exact HC1.out); rintro e w' ⟨rfl, ⟨nd, rfl⟩⟩; (try first | exact ⟨rfl, _, World.drewN_drewN _ _ _⟩ | exact ⟨rfl, _, Eq.trans (World.drewN_drewN _ _ _) (congrArg (World.drewN _) (Nat.add_assoc _ _ _))⟩); have p278 : 0 ≤ (t277 : Int) := of_decide_eq_true (by first | (with_reducible assumption) | assumption); have q278 : t277 < (t274.length : Int) := of_decide_eq_true (by first | (with_reducible assumption) | assumption); obtain ⟨ad278, e278, hx278_0, hx278_1⟩ := at_T45 (Kd.R_reads' HO276.out).2.2 t277 p278 q278; cases e278; replace p278 := eq_true p278; replace q278 := eq_true q278) | ((with_reducible refine gate_dst (N := 6) rfl ?_); (try (refine gate_guard (by rfl) ?_; dsimp only)); refine box_event ?hg (N := 6) ?hd (cs := #[.int .i64 0, .int .i64 0]) (t := 45) ?hr ?_; (case hd => rfl); (case hg => rfl); (case hr => first | (go_simp; done) | (go_simp; rfl)); intro gb279 hg w15 hbox hb; have n0_ := Aside0.mk (Kd.R_below (Kd.R_elderB (by (with_reducible repeat (first | apply Kd.R_alloc | apply Kd.R_drewN | apply Kd.R_drew)); exact HO276.out) gb279 (Nat.le_of_eq hg.symm)) hb); have n1_ := Aside0.mk (below_step (by repeat (first | (with_reducible first | exact HB.out | apply below_alloc | apply pw_below_drewN | apply below_drew1) | exact HB.out)) hb); have n2_ := Aside0.mk (hbox); have n3_ := Aside0.mk ((by rw [hg]; exact (below_size (by repeat (first | (with_reducible first | exact HB.out | apply below_alloc | apply pw_below_drewN | apply below_drew1) | exact HB.out))) : w.heap.size ≤ gb279)); have n4_ := Aside0.mk ((by rw [hg]; exact (below_size (by repeat (first | (with_reducible first | exact HB.out | apply below_alloc | apply pw_below_drewN | apply below_drew1) | exact HB.out))) : w.heap.size ≤ gb279)); clear HO276; clear HB; have HO276 := n0_; have HB := n1_; have BK279 := n2_; have GW279 := n3_; have GE279 := n4_; clear n0_ n1_ n2_ n3_ n4_; clear hb hbox hg; have hcz16_0 : w15.cell? ⟨gb279, 0, none⟩ = some (.int .i64 0) := (blk_cell BK279.out 0).trans rfl; have hcz16_1 : w15.cell? ⟨gb279, 1, none⟩ = some (.int .i64 0) := (blk_cell BK279.out 1).trans rfl; have hfz16_0 := blk_frozen BK279.out 0; have hfz16_1 := blk_frozen BK279.out 1) | (go_at_call 20; (with_reducible refine (impl_Probing.calls kj2 _ _ t274 ((rd_T45 t274 t277).f0) ((rd_T45 t274 t277).f1) t280 t283 t284 _ ?side1 ?side2 A10.out).mono ?_); (case side1 => refine (Kd.R_reads' (e := 45) (base := w.heap.size) (ok := fun k_ => (True ∧ k_ ≠ gb279)) (n := t274.length) (c := co14) ?_).2.2; exact (by (with_reducible repeat (first | apply Kd.R_alloc | apply Kd.R_drewN | apply Kd.R_drew)); exact (Kd.R_mono (Kd.R_far (p := ⟨gb279, 1, none⟩) (Kd.R_far (p := ⟨gb279, 0, none⟩) (Kd.R_mono HO276.out (fun k_ hk => (⟨hk, hk.2⟩ : _ ∧ k_ ≠ gb279))) (fun _ hk => hk.2) (.int .i64 ((rd_T45 t274 t277).f0))) (fun _ hk => hk.2) (.int .i64 ((rd_T45 t274 t277).f1))) (fun _ h_ => h_.1)))); (case side2 => exact (Kd.R_reads' HO276.out).2.1); rintro e w17 ⟨v281, rfl, ho0, hb⟩; have n0_ := Aside0.mk (Kd.R_below (by (with_reducible repeat (first | apply Kd.R_alloc | apply Kd.R_drewN | apply Kd.R_drew)); exact (Kd.R_mono (Kd.R_far (p := ⟨gb279, 1, none⟩) (Kd.R_far (p := ⟨gb279, 0, none⟩) (Kd.R_mono HO276.out (fun k_ hk => (⟨hk, hk.2⟩ : _ ∧ k_ ≠ gb279))) (fun _ hk => hk.2) (.int .i64 ((rd_T45 t274 t277).f0))) (fun _ hk => hk.2) (.int .i64 ((rd_T45 t274 t277).f1))) (fun _ h_ => h_.1))) hb); have n1_ := Aside0.mk (Kd.R_lower ho0 (below_size (by repeat (first | (with_reducible first | exact HB.out | apply below_alloc | apply pw_below_drewN | apply below_drew1 | refine below_set ?_ GE279.out) | exact HB.out)))); have n2_ := Aside0.mk (blk_below (g := gb279) (o := .cells #[.int .i64 ((rd_T45 t274 t277).f0), .int .i64 ((rd_T45 t274 t277).f1)] 45 (0, 0)) (by (with_reducible repeat (first | refine blk_drewN ?_ _ | refine blk_drew ?_ | refine blk_alloc ?_ _)); refine blk_put (cs := #[.int .i64 ((rd_T45 t274 t277).f0), .int .i64 0]) ?_ 1 _ rfl; (with_reducible repeat (first | refine blk_drewN ?_ _ | refine blk_drew ?_ | refine blk_alloc ?_ _)); refine blk_put (cs := #[.int .i64 0, .int .i64 0]) ?_ 0 _ rfl; (with_reducible repeat (first | refine blk_drewN ?_ _ | refine blk_drew ?_ | refine blk_alloc ?_ _)); exact BK279.out) hb); have n3_ := Aside0.mk (below_step (by repeat (first | (with_reducible first | exact HB.out | apply below_alloc | apply pw_below_drewN | apply below_drew1 | refine below_set ?_ GE279.out) | exact HB.out)) hb); clear HO276; clear BK279; clear HB; have HO276 := n0_; have HO282 := n1_; have BK279 := n2_; have HB := n3_; clear n0_ n1_ n2_ n3_; (try clear hb); (try clear hb2); (try clear hk); (try clear hi); (try clear ho0); have hcz18_0 : w17.cell? ⟨gb279, 0, none⟩ = some (.int .i64 ((rd_T45 t274 t277).f0)) := (blk_cell BK279.out 0).trans rfl; have hcz18_1 : w17.cell? ⟨gb279, 1, none⟩ = some (.int .i64 ((rd_T45 t274 t277).f1)) := (blk_cell BK279.out 1).trans rfl; have hfz18_0 := blk_frozen BK279.out 0; have hfz18_1 := blk_frozen BK279.out 1) | (go_at_call 17; (with_reducible refine (spec_Probing.calls kj2 _ _ t274 ((rd_T45 t274 t277).f0) ((rd_T45 t274 t277).f1) t285 t288 t289 _ ?side1 ?side2 A11.out).mono ?_); (case side1 => repeat (first | exact (Kd.R_reads' HO276.out).2.2 | (with_reducible refine Kd.C_alloc ?_ _) | (with_reducible refine Kd.C_drewN ?_ _) | (with_reducible refine Kd.C_drew ?_))); (case side2 => exact (Kd.R_reads' HO276.out).2.1); rintro e w19 ⟨v286, rfl, ho0, hb⟩; have n0_ := Aside0.mk (Kd.R_below (by (with_reducible repeat (first | apply Kd.R_alloc | apply Kd.R_drewN | apply Kd.R_drew)); exact HO276.out) hb); have n1_ := Aside0.mk (Kd.R_elder' (by (with_reducible repeat (first | apply Kd.R_alloc | apply Kd.R_drewN | apply Kd.R_drew)); exact HO282.out) (Kd.R_base ho0) hb); have n2_ := Aside0.mk (Kd.R_lower (Kd.R_new' ho0 (Kd.R_lt (by (with_reducible repeat (first | apply Kd.R_alloc | apply Kd.R_drewN | apply Kd.R_drew)); exact HO282.out))) (below_size (by repeat (first | (with_reducible first | exact HB.out | apply below_alloc | apply pw_below_drewN | apply below_drew1 | refine below_set ?_ GE279.out) | exact HB.out)))); have n3_ := Aside0.mk (blk_below (g := gb279) (o := .cells #[.int .i64 ((rd_T45 t274 t277).f0), .int .i64 ((rd_T45 t274 t277).f1)] 45 (0, 0)) (by (with_reducible repeat (first | refine blk_drewN ?_ _ | refine blk_drew ?_ | refine blk_alloc ?_ _)); exact BK279.out) hb); have n4_ := Aside0.mk (below_step (by repeat (first | (with_reducible first | exact HB.out | apply below_alloc | apply pw_below_drewN | apply below_drew1 | refine below_set ?_ GE279.out) | exact HB.out)) hb); clear HO276; clear HO282; clear BK279; clear HB; have HO276 := n0_; have HO282 := n1_; have HO287 := n2_; have BK279 := n3_; have HB := n4_; clear n0_ n1_ n2_ n3_ n4_; (try clear hb); (try clear hb2); (try clear hk); (try clear hi); (try clear ho0))); go_upto_region 7 with (first | (go_at_call 26; (with_reducible refine (spec_PointsOf.calls kj2 _ _ l0 t274 _ ?side1 ?side2 A6.out).mono ?_); (case side1 => repeat (first | exact (Kd.C_below HR0.out HB.out) | (with_reducible refine Kd.C_alloc ?_ _) | (with_reducible refine Kd.C_drewN ?_ _) | (with_reducible refine Kd.C_drew ?_))); (case side2 => exact HC0.out); rintro e w13 ⟨v275, rfl, ho0, hb⟩; have n0_ := Aside0.mk (Kd.R_lower ho0 (below_size (by repeat (first | (with_reducible first | exact HB.out | apply below_alloc | apply pw_below_drewN | apply below_drew1) | exact HB.out)))); have n1_ := Aside0.mk (below_step (by repeat (first | (with_reducible first | exact HB.out | apply below_alloc | apply pw_below_drewN | apply below_drew1) | exact HB.out)) hb); clear HB; have HO276 := n0_; have HB := n1_; clear n0_ n1_; (try clear hb); (try clear hb2); (try clear hk); (try clear hi); (try clear ho0); obtain ⟨Ao14, co14, eo14⟩ := Kd.R_slice HO276.out; subst eo14) | (go_at_call 27; (with_reducible refine (laws_at.calls _ _ l1 0 (t274.length : Int) t277 _ ?side1 ?side2 A7.out).mono ?_); (case side1 => repeat (first | exact (Kd.C_below HR1.out HB.out) | (with_reducible refine Kd.C_alloc ?_ _) | (with_reducible refine Kd.C_drewN ?_ _) | (with_reducible refine Kd.C_drew ?_))); (case side2 => exact HC1.out); rintro e w' ⟨rfl, ⟨nd, rfl⟩⟩; (try first | exact ⟨rfl, _, World.drewN_drewN _ _ _⟩ | exact ⟨rfl, _, Eq.trans (World.drewN_drewN _ _ _) (congrArg (World.drewN _) (Nat.add_assoc _ _ _))⟩); have p278 : 0 ≤ (t277 : Int) := of_decide_eq_true (by first | (with_reducible assumption) | assumption); have q278 : t277 < (t274.length : Int) := of_decide_eq_true (by first | (with_reducible assumption) | assumption); obtain ⟨ad278, e278, hx278_0, hx278_1⟩ := at_T45 (Kd.R_reads' HO276.out).2.2 t277 p278 q278; cases e278; replace p278 := eq_true p278; replace q278 := eq_true q278) | ((with_reducible refine gate_dst (N := 6) rfl ?_); (try (refine gate_guard (by rfl) ?_; dsimp only)); refine box_event ?hg (N := 6) ?hd (cs := #[.int .i64 0, .int .i64 0]) (t := 45) ?hr ?_; (case hd => rfl); (case hg => rfl); (case hr => first | (go_simp; done) | (go_simp; rfl)); intro gb279 hg w15 hbox hb; have n0_ := Aside0.mk (Kd.R_below (Kd.R_elderB (by (with_reducible repeat (first | apply Kd.R_alloc | apply Kd.R_drewN | apply Kd.R_drew)); exact HO276.out) gb279 (Nat.le_of_eq hg.symm)) hb); have n1_ := Aside0.mk (below_step (by repeat (first | (with_reducible first | exact HB.out | apply below_alloc | apply pw_below_drewN | apply below_drew1) | exact HB.out)) hb); have n2_ := Aside0.mk (hbox); have n3_ := Aside0.mk ((by rw [hg]; exact (below_size (by repeat (first | (with_reducible first | exact HB.out | apply below_alloc | apply pw_below_drewN | apply below_drew1) | exact HB.out))) : w.heap.size ≤ gb279)); have n4_ := Aside0.mk ((by rw [hg]; exact (below_size (by repeat (first | (with_reducible first | exact HB.out | apply below_alloc | apply pw_below_drewN | apply below_drew1) | exact HB.out))) : w.heap.size ≤ gb279)); clear HO276; clear HB; have HO276 := n0_; have HB := n1_; have BK279 := n2_; have GW279 := n3_; have GE279 := n4_; clear n0_ n1_ n2_ n3_ n4_; clear hb hbox hg; have hcz16_0 : w15.cell? ⟨gb279, 0, none⟩ = some (.int .i64 0) := (blk_cell BK279.out 0).trans rfl; have hcz16_1 : w15.cell? ⟨gb279, 1, none⟩ = some (.int .i64 0) := (blk_cell BK279.out 1).trans rfl; have hfz16_0 := blk_frozen BK279.out 0; have hfz16_1 := blk_frozen BK279.out 1) | (go_at_call 20; (with_reducible refine (impl_Probing.calls kj2 _ _ t274 ((rd_T45 t274 t277).f0) ((rd_T45 t274 t277).f1) t280 t283 t284 _ ?side1 ?side2 A10.out).mono ?_); (case side1 => refine (Kd.R_reads' (e := 45) (base := w.heap.size) (ok := fun k_ => (True ∧ k_ ≠ gb279)) (n := t274.length) (c := co14) ?_).2.2; exact (by (with_reducible repeat (first | apply Kd.R_alloc | apply Kd.R_drewN | apply Kd.R_drew)); exact (Kd.R_mono (Kd.R_far (p := ⟨gb279, 1, none⟩) (Kd.R_far (p := ⟨gb279, 0, none⟩) (Kd.R_mono HO276.out (fun k_ hk => (⟨hk, hk.2⟩ : _ ∧ k_ ≠ gb279))) (fun _ hk => hk.2) (.int .i64 ((rd_T45 t274 t277).f0))) (fun _ hk => hk.2) (.int .i64 ((rd_T45 t274 t277).f1))) (fun _ h_ => h_.1)))); (case side2 => exact (Kd.R_reads' HO276.out).2.1); rintro e w17 ⟨v281, rfl, ho0, hb⟩; have n0_ := Aside0.mk (Kd.R_below (by (with_reducible repeat (first | apply Kd.R_alloc | apply Kd.R_drewN | apply Kd.R_drew)); exact (Kd.R_mono (Kd.R_far (p := ⟨gb279, 1, none⟩) (Kd.R_far (p := ⟨gb279, 0, none⟩) (Kd.R_mono HO276.out (fun k_ hk => (⟨hk, hk.2⟩ : _ ∧ k_ ≠ gb279))) (fun _ hk => hk.2) (.int .i64 ((rd_T45 t274 t277).f0))) (fun _ hk => hk.2) (.int .i64 ((rd_T45 t274 t277).f1))) (fun _ h_ => h_.1))) hb); have n1_ := Aside0.mk (Kd.R_lower ho0 (below_size (by repeat (first | (with_reducible first | exact HB.out | apply below_alloc | apply pw_below_drewN | apply below_drew1 | refine below_set ?_ GE279.out) | exact HB.out)))); have n2_ := Aside0.mk (blk_below (g := gb279) (o := .cells #[.int .i64 ((rd_T45 t274 t277).f0), .int .i64 ((rd_T45 t274 t277).f1)] 45 (0, 0)) (by (with_reducible repeat (first | refine blk_drewN ?_ _ | refine blk_drew ?_ | refine blk_alloc ?_ _)); refine blk_put (cs := #[.int .i64 ((rd_T45 t274 t277).f0), .int .i64 0]) ?_ 1 _ rfl; (with_reducible repeat (first | refine blk_drewN ?_ _ | refine blk_drew ?_ | refine blk_alloc ?_ _)); refine blk_put (cs := #[.int .i64 0, .int .i64 0]) ?_ 0 _ rfl; (with_reducible repeat (first | refine blk_drewN ?_ _ | refine blk_drew ?_ | refine blk_alloc ?_ _)); exact BK279.out) hb); have n3_ := Aside0.mk (below_step (by repeat (first | (with_reducible first | exact HB.out | apply below_alloc | apply pw_below_drewN | apply below_drew1 | refine below_set ?_ GE279.out) | exact HB.out)) hb); clear HO276; clear BK279; clear HB; have HO276 := n0_; have HO282 := n1_; have BK279 := n2_; have HB := n3_; clear n0_ n1_ n2_ n3_; (try clear hb); (try clear hb2); (try clear hk); (try clear hi); (try clear ho0); have hcz18_0 : w17.cell? ⟨gb279, 0, none⟩ = some (.int .i64 ((rd_T45 t274 t277).f0)) := (blk_cell BK279.out 0).trans rfl; have hcz18_1 : w17.cell? ⟨gb279, 1, none⟩ = some (.int .i64 ((rd_T45 t274 t277).f1)) := (blk_cell BK279.out 1).trans rfl; have hfz18_0 := blk_frozen BK279.out 0; have hfz18_1 := blk_frozen BK279.out 1) | (go_at_call 17; (with_reducible refine (spec_Probing.calls kj2 _ _ t274 ((rd_T45 t274 t277).f0) ((rd_T45 t274 t277).f1) t285 t288 t289 _ ?side1 ?side2 A11.out).mono ?_); (case side1 => repeat (first | exact (Kd.R_reads' HO276.out).2.2 | (with_reducible refine Kd.C_alloc ?_ _) | (with_reducible refine Kd.C_drewN ?_ _) | (with_reducible refine Kd.C_drew ?_))); (case side2 => exact (Kd.R_reads' HO276.out).2.1); rintro e w19 ⟨v286, rfl, ho0, hb⟩; have n0_ := Aside0.mk (Kd.R_below (by (with_reducible repeat (first | apply Kd.R_alloc | apply Kd.R_drewN | apply Kd.R_drew)); exact HO276.out) hb); have n1_ := Aside0.mk (Kd.R_elder' (by (with_reducible repeat (first | apply Kd.R_alloc | apply Kd.R_drewN | apply Kd.R_drew)); exact HO282.out) (Kd.R_base ho0) hb); have n2_ := Aside0.mk (Kd.R_lower (Kd.R_new' ho0 (Kd.R_lt (by (with_reducible repeat (first | apply Kd.R_alloc | apply Kd.R_drewN | apply Kd.R_drew)); exact HO282.out))) (below_size (by repeat (first | (with_reducible first | exact HB.out | apply below_alloc | apply pw_below_drewN | apply below_drew1 | refine below_set ?_ GE279.out) | exact HB.out)))); have n3_ := Aside0.mk (blk_below (g := gb279) (o := .cells #[.int .i64 ((rd_T45 t274 t277).f0), .int .i64 ((rd_T45 t274 t277).f1)] 45 (0, 0)) (by (with_reducible repeat (first | refine blk_drewN ?_ _ | refine blk_drew ?_ | refine blk_alloc ?_ _)); exact BK279.out) hb); have n4_ := Aside0.mk (below_step (by repeat (first | (with_reducible first | exact HB.out | apply below_alloc | apply pw_below_drewN | apply below_drew1 | refine below_set ?_ GE279.out) | exact HB.out)) hb); clear HO276; clear HO282; clear BK279; clear HB; have HO276 := n0_; have HO282 := n1_; have HO287 := n2_; have BK279 := n3_; have HB := n4_; clear n0_ n1_ n2_ n3_ n4_; (try clear hb); (try clear hb2); (try clear hk); (try clear hi); (try clear ho0))))
      (try simp only [Act.put, List.setIfInBounds_toArray, List.set_cons_zero, List.set_cons_succ])
      go_cut [78] (fun v78 wc => ∃ (kq : Nat) (x78_11 : Bool), v78 = .bool x78_11 ∧ Aside0 (laws_FnProbe.j1 kq l0 t274 t280 t283 x78_11 ((rd_T45 t274 t277).f0) ((rd_T45 t274 t277).f1) = some r) ∧ Aside0 (kq ≤ kj2) ∧ Aside0 (Kd.R k45 45 wc w.heap.size (fun k_ => k_ ≠ gb279) (.slice (some ad278) t274.length co14) t274) ∧ Aside0 (Kd.R (Kd.int .i64) 3 wc w.heap.size (fun _ => True) v281 t280) ∧ Aside0 (wc.heap[gb279]? = some (.cells #[.int .i64 ((rd_T45 t274 t277).f0), .int .i64 ((rd_T45 t274 t277).f1)] 45 (0, 0))) ∧ Aside0 (Below w.heap.size w wc))
      case first => as_aux_lemma =>
       have H := HC12.out
       clear HC12
       by_cases c20 : t284 = 0
       ·rw [if_pos c20] at H
        have c20b0 : (t284 == 0) = true := beq_iff_eq.mpr c20
        have c20b1 : (t284 != 0) = false := bne_eq_false_iff_eq.mpr c20
        clear c20
        (first | rw [c20b0] | (simp only [i64_w, i32_w]; rw [c20b0]) | skip)
        replace H := Option.bind_eq_some_iff.mp H
        obtain ⟨t290, A210, H⟩ := H
        replace H : (if t290 = true then (if t283 = t288 then (laws_FnProbe.j1 kj2 l0 t274 t280 t283 ((t280.length : Int) != (t274.length : Int)) ((rd_T45 t274 t277).f0) ((rd_T45 t274 t277).f1)) else (laws_FnProbe.j1 kj2 l0 t274 t280 t283 true ((rd_T45 t274 t277).f0) ((rd_T45 t274 t277).f1))) else (laws_FnProbe.j1 kj2 l0 t274 t280 t283 true ((rd_T45 t274 t277).f0) ((rd_T45 t274 t277).f1))) = some r := H
        have A21 := Aside0.mk A210
        clear A210
        by_cases c22 : t290 = true
        ·subst c22
         have H1 : (if t283 = t288 then (laws_FnProbe.j1 kj2 l0 t274 t280 t283 ((t280.length : Int) != (t274.length : Int)) ((rd_T45 t274 t277).f0) ((rd_T45 t274 t277).f1)) else (laws_FnProbe.j1 kj2 l0 t274 t280 t283 true ((rd_T45 t274 t277).f0) ((rd_T45 t274 t277).f1))) = some r := by rw [if_pos rfl] at H; exact H
         clear H
         have H := H1
         clear H1
         by_cases c23 : t283 = t288
         ·rw [if_pos c23] at H
          have c23b0 : (t283 == t288) = true := beq_iff_eq.mpr c23
          have c23b1 : (t283 != t288) = false := bne_eq_false_iff_eq.mpr c23
          clear c23
          have H' := Aside0.mk H
          clear H
          obtain ⟨Ao24, co24, eo24⟩ := Kd.R_slice HO282.out
          subst eo24
          obtain ⟨Ao25, co25, eo25⟩ := Kd.R_slice HO287.out
          subst eo25
          go_wp2_with (first | (go_at_call 28; (with_reducible refine (laws_sameInts.calls kj2 _ _ t280 _ _ t285 true _ ?side1 ?side2 ?side3 ?side4 A21.out).mono ?_); (case side1 => repeat (first | exact (Kd.R_reads' HO282.out).2.2 | (with_reducible refine Kd.C_alloc ?_ _) | (with_reducible refine Kd.C_drewN ?_ _) | (with_reducible refine Kd.C_drew ?_))); (case side2 => exact (Kd.R_reads' HO282.out).2.1); (case side3 => repeat (first | exact (Kd.R_reads' HO287.out).2.2 | (with_reducible refine Kd.C_alloc ?_ _) | (with_reducible refine Kd.C_drewN ?_ _) | (with_reducible refine Kd.C_drew ?_))); (case side4 => exact (Kd.R_reads' HO287.out).2.1); rintro e w' ⟨rfl, ⟨nd, rfl⟩⟩; (try first | exact ⟨rfl, _, World.drewN_drewN _ _ _⟩ | exact ⟨rfl, _, Eq.trans (World.drewN_drewN _ _ _) (congrArg (World.drewN _) (Nat.add_assoc _ _ _))⟩)))
          repeat (go_quiet (first | (go_at_call 28; (with_reducible refine (laws_sameInts.calls kj2 _ _ t280 _ _ t285 true _ ?side1 ?side2 ?side3 ?side4 A21.out).mono ?_); (case side1 => repeat (first | exact (Kd.R_reads' HO282.out).2.2 | (with_reducible refine Kd.C_alloc ?_ _) | (with_reducible refine Kd.C_drewN ?_ _) | (with_reducible refine Kd.C_drew ?_))); (case side2 => exact (Kd.R_reads' HO282.out).2.1); (case side3 => repeat (first | exact (Kd.R_reads' HO287.out).2.2 | (with_reducible refine Kd.C_alloc ?_ _) | (with_reducible refine Kd.C_drewN ?_ _) | (with_reducible refine Kd.C_drew ?_))); (case side4 => exact (Kd.R_reads' HO287.out).2.1); rintro e w' ⟨rfl, ⟨nd, rfl⟩⟩; (try first | exact ⟨rfl, _, World.drewN_drewN _ _ _⟩ | exact ⟨rfl, _, Eq.trans (World.drewN_drewN _ _ _) (congrArg (World.drewN _) (Nat.add_assoc _ _ _))⟩))); try go_wp2_with (first | (go_at_call 28; (with_reducible refine (laws_sameInts.calls kj2 _ _ t280 _ _ t285 true _ ?side1 ?side2 ?side3 ?side4 A21.out).mono ?_); (case side1 => repeat (first | exact (Kd.R_reads' HO282.out).2.2 | (with_reducible refine Kd.C_alloc ?_ _) | (with_reducible refine Kd.C_drewN ?_ _) | (with_reducible refine Kd.C_drew ?_))); (case side2 => exact (Kd.R_reads' HO282.out).2.1); (case side3 => repeat (first | exact (Kd.R_reads' HO287.out).2.2 | (with_reducible refine Kd.C_alloc ?_ _) | (with_reducible refine Kd.C_drewN ?_ _) | (with_reducible refine Kd.C_drew ?_))); (case side4 => exact (Kd.R_reads' HO287.out).2.1); rintro e w' ⟨rfl, ⟨nd, rfl⟩⟩; (try first | exact ⟨rfl, _, World.drewN_drewN _ _ _⟩ | exact ⟨rfl, _, Eq.trans (World.drewN_drewN _ _ _) (congrArg (World.drewN _) (Nat.add_assoc _ _ _))⟩))))
          go_meet
          case rel => exact ⟨_, (((t280.length : Int) != (t274.length : Int))), (by first | rfl | (simp; done) | (simp [*]; done)), H', ⟨by have := HJ2.out; first | omega | exact Nat.le_refl _⟩, ⟨by (with_reducible repeat (first | apply Kd.R_alloc | apply Kd.R_drewN | apply Kd.R_drew)); exact Kd.R_mono HO276.out (fun _ hk => hk.2)⟩, ⟨by (with_reducible repeat (first | apply Kd.R_alloc | apply Kd.R_drewN | apply Kd.R_drew)); exact Kd.R_mono HO282.out (fun _ hk => trivial)⟩, ⟨by (with_reducible repeat (first | refine blk_drewN ?_ _ | refine blk_drew ?_ | refine blk_alloc ?_ _)); exact BK279.out⟩, ⟨by repeat (first | (with_reducible first | exact HB.out | apply below_alloc | apply pw_below_drewN | apply below_drew1 | refine below_set ?_ GE279.out) | exact HB.out)⟩⟩
         ·rw [if_neg c23] at H
          have c23b0 : (t283 == t288) = false := beq_eq_false_iff_ne.mpr c23
          have c23b1 : (t283 != t288) = true := bne_iff_ne.mpr c23
          have H' := Aside0.mk H
          clear H
          obtain ⟨Ao26, co26, eo26⟩ := Kd.R_slice HO282.out
          subst eo26
          obtain ⟨Ao27, co27, eo27⟩ := Kd.R_slice HO287.out
          subst eo27
          go_wp2_with (first | (go_at_call 28; (with_reducible refine (laws_sameInts.calls kj2 _ _ t280 _ _ t285 true _ ?side1 ?side2 ?side3 ?side4 A21.out).mono ?_); (case side1 => repeat (first | exact (Kd.R_reads' HO282.out).2.2 | (with_reducible refine Kd.C_alloc ?_ _) | (with_reducible refine Kd.C_drewN ?_ _) | (with_reducible refine Kd.C_drew ?_))); (case side2 => exact (Kd.R_reads' HO282.out).2.1); (case side3 => repeat (first | exact (Kd.R_reads' HO287.out).2.2 | (with_reducible refine Kd.C_alloc ?_ _) | (with_reducible refine Kd.C_drewN ?_ _) | (with_reducible refine Kd.C_drew ?_))); (case side4 => exact (Kd.R_reads' HO287.out).2.1); rintro e w' ⟨rfl, ⟨nd, rfl⟩⟩; (try first | exact ⟨rfl, _, World.drewN_drewN _ _ _⟩ | exact ⟨rfl, _, Eq.trans (World.drewN_drewN _ _ _) (congrArg (World.drewN _) (Nat.add_assoc _ _ _))⟩)))
          repeat (go_quiet (first | (go_at_call 28; (with_reducible refine (laws_sameInts.calls kj2 _ _ t280 _ _ t285 true _ ?side1 ?side2 ?side3 ?side4 A21.out).mono ?_); (case side1 => repeat (first | exact (Kd.R_reads' HO282.out).2.2 | (with_reducible refine Kd.C_alloc ?_ _) | (with_reducible refine Kd.C_drewN ?_ _) | (with_reducible refine Kd.C_drew ?_))); (case side2 => exact (Kd.R_reads' HO282.out).2.1); (case side3 => repeat (first | exact (Kd.R_reads' HO287.out).2.2 | (with_reducible refine Kd.C_alloc ?_ _) | (with_reducible refine Kd.C_drewN ?_ _) | (with_reducible refine Kd.C_drew ?_))); (case side4 => exact (Kd.R_reads' HO287.out).2.1); rintro e w' ⟨rfl, ⟨nd, rfl⟩⟩; (try first | exact ⟨rfl, _, World.drewN_drewN _ _ _⟩ | exact ⟨rfl, _, Eq.trans (World.drewN_drewN _ _ _) (congrArg (World.drewN _) (Nat.add_assoc _ _ _))⟩))); try go_wp2_with (first | (go_at_call 28; (with_reducible refine (laws_sameInts.calls kj2 _ _ t280 _ _ t285 true _ ?side1 ?side2 ?side3 ?side4 A21.out).mono ?_); (case side1 => repeat (first | exact (Kd.R_reads' HO282.out).2.2 | (with_reducible refine Kd.C_alloc ?_ _) | (with_reducible refine Kd.C_drewN ?_ _) | (with_reducible refine Kd.C_drew ?_))); (case side2 => exact (Kd.R_reads' HO282.out).2.1); (case side3 => repeat (first | exact (Kd.R_reads' HO287.out).2.2 | (with_reducible refine Kd.C_alloc ?_ _) | (with_reducible refine Kd.C_drewN ?_ _) | (with_reducible refine Kd.C_drew ?_))); (case side4 => exact (Kd.R_reads' HO287.out).2.1); rintro e w' ⟨rfl, ⟨nd, rfl⟩⟩; (try first | exact ⟨rfl, _, World.drewN_drewN _ _ _⟩ | exact ⟨rfl, _, Eq.trans (World.drewN_drewN _ _ _) (congrArg (World.drewN _) (Nat.add_assoc _ _ _))⟩))))
          go_meet
          case rel => exact ⟨_, (true), (by first | rfl | (simp; done) | (simp [*]; done)), H', ⟨by have := HJ2.out; first | omega | exact Nat.le_refl _⟩, ⟨by (with_reducible repeat (first | apply Kd.R_alloc | apply Kd.R_drewN | apply Kd.R_drew)); exact Kd.R_mono HO276.out (fun _ hk => hk.2)⟩, ⟨by (with_reducible repeat (first | apply Kd.R_alloc | apply Kd.R_drewN | apply Kd.R_drew)); exact Kd.R_mono HO282.out (fun _ hk => trivial)⟩, ⟨by (with_reducible repeat (first | refine blk_drewN ?_ _ | refine blk_drew ?_ | refine blk_alloc ?_ _)); exact BK279.out⟩, ⟨by repeat (first | (with_reducible first | exact HB.out | apply below_alloc | apply pw_below_drewN | apply below_drew1 | refine below_set ?_ GE279.out) | exact HB.out)⟩⟩
        ·replace c22 := Bool.eq_false_iff.mpr c22
         subst c22
         have H1 : (laws_FnProbe.j1 kj2 l0 t274 t280 t283 true ((rd_T45 t274 t277).f0) ((rd_T45 t274 t277).f1)) = some r := by rw [if_neg (show ¬ (false = true) by decide)] at H; exact H
         clear H
         have H := H1
         clear H1
         have H' := Aside0.mk H
         clear H
         obtain ⟨Ao28, co28, eo28⟩ := Kd.R_slice HO282.out
         subst eo28
         obtain ⟨Ao29, co29, eo29⟩ := Kd.R_slice HO287.out
         subst eo29
         go_wp2_with (first | (go_at_call 28; (with_reducible refine (laws_sameInts.calls kj2 _ _ t280 _ _ t285 false _ ?side1 ?side2 ?side3 ?side4 A21.out).mono ?_); (case side1 => repeat (first | exact (Kd.R_reads' HO282.out).2.2 | (with_reducible refine Kd.C_alloc ?_ _) | (with_reducible refine Kd.C_drewN ?_ _) | (with_reducible refine Kd.C_drew ?_))); (case side2 => exact (Kd.R_reads' HO282.out).2.1); (case side3 => repeat (first | exact (Kd.R_reads' HO287.out).2.2 | (with_reducible refine Kd.C_alloc ?_ _) | (with_reducible refine Kd.C_drewN ?_ _) | (with_reducible refine Kd.C_drew ?_))); (case side4 => exact (Kd.R_reads' HO287.out).2.1); rintro e w' ⟨rfl, ⟨nd, rfl⟩⟩; (try first | exact ⟨rfl, _, World.drewN_drewN _ _ _⟩ | exact ⟨rfl, _, Eq.trans (World.drewN_drewN _ _ _) (congrArg (World.drewN _) (Nat.add_assoc _ _ _))⟩)))
         repeat (go_quiet (first | (go_at_call 28; (with_reducible refine (laws_sameInts.calls kj2 _ _ t280 _ _ t285 false _ ?side1 ?side2 ?side3 ?side4 A21.out).mono ?_); (case side1 => repeat (first | exact (Kd.R_reads' HO282.out).2.2 | (with_reducible refine Kd.C_alloc ?_ _) | (with_reducible refine Kd.C_drewN ?_ _) | (with_reducible refine Kd.C_drew ?_))); (case side2 => exact (Kd.R_reads' HO282.out).2.1); (case side3 => repeat (first | exact (Kd.R_reads' HO287.out).2.2 | (with_reducible refine Kd.C_alloc ?_ _) | (with_reducible refine Kd.C_drewN ?_ _) | (with_reducible refine Kd.C_drew ?_))); (case side4 => exact (Kd.R_reads' HO287.out).2.1); rintro e w' ⟨rfl, ⟨nd, rfl⟩⟩; (try first | exact ⟨rfl, _, World.drewN_drewN _ _ _⟩ | exact ⟨rfl, _, Eq.trans (World.drewN_drewN _ _ _) (congrArg (World.drewN _) (Nat.add_assoc _ _ _))⟩))); try go_wp2_with (first | (go_at_call 28; (with_reducible refine (laws_sameInts.calls kj2 _ _ t280 _ _ t285 false _ ?side1 ?side2 ?side3 ?side4 A21.out).mono ?_); (case side1 => repeat (first | exact (Kd.R_reads' HO282.out).2.2 | (with_reducible refine Kd.C_alloc ?_ _) | (with_reducible refine Kd.C_drewN ?_ _) | (with_reducible refine Kd.C_drew ?_))); (case side2 => exact (Kd.R_reads' HO282.out).2.1); (case side3 => repeat (first | exact (Kd.R_reads' HO287.out).2.2 | (with_reducible refine Kd.C_alloc ?_ _) | (with_reducible refine Kd.C_drewN ?_ _) | (with_reducible refine Kd.C_drew ?_))); (case side4 => exact (Kd.R_reads' HO287.out).2.1); rintro e w' ⟨rfl, ⟨nd, rfl⟩⟩; (try first | exact ⟨rfl, _, World.drewN_drewN _ _ _⟩ | exact ⟨rfl, _, Eq.trans (World.drewN_drewN _ _ _) (congrArg (World.drewN _) (Nat.add_assoc _ _ _))⟩))))
         go_meet
         case rel => exact ⟨_, (true), (by first | rfl | (simp; done) | (simp [*]; done)), H', ⟨by have := HJ2.out; first | omega | exact Nat.le_refl _⟩, ⟨by (with_reducible repeat (first | apply Kd.R_alloc | apply Kd.R_drewN | apply Kd.R_drew)); exact Kd.R_mono HO276.out (fun _ hk => hk.2)⟩, ⟨by (with_reducible repeat (first | apply Kd.R_alloc | apply Kd.R_drewN | apply Kd.R_drew)); exact Kd.R_mono HO282.out (fun _ hk => trivial)⟩, ⟨by (with_reducible repeat (first | refine blk_drewN ?_ _ | refine blk_drew ?_ | refine blk_alloc ?_ _)); exact BK279.out⟩, ⟨by repeat (first | (with_reducible first | exact HB.out | apply below_alloc | apply pw_below_drewN | apply below_drew1 | refine below_set ?_ GE279.out) | exact HB.out)⟩⟩
       ·rw [if_neg c20] at H
        have c20b0 : (t284 == 0) = false := beq_eq_false_iff_ne.mpr c20
        have c20b1 : (t284 != 0) = true := bne_iff_ne.mpr c20
        (first | rw [c20b0] | (simp only [i64_w, i32_w]; rw [c20b0]) | skip)
        have H' := Aside0.mk H
        clear H
        go_wp2
        repeat (go_quiet (fail); try go_wp2)
        go_meet
        case rel => exact ⟨_, (true), (by first | rfl | (simp; done) | (simp [*]; done)), H', ⟨by have := HJ2.out; first | omega | exact Nat.le_refl _⟩, ⟨by (with_reducible repeat (first | apply Kd.R_alloc | apply Kd.R_drewN | apply Kd.R_drew)); exact Kd.R_mono HO276.out (fun _ hk => hk.2)⟩, ⟨by (with_reducible repeat (first | apply Kd.R_alloc | apply Kd.R_drewN | apply Kd.R_drew)); exact Kd.R_mono HO282.out (fun _ hk => trivial)⟩, ⟨by (with_reducible repeat (first | refine blk_drewN ?_ _ | refine blk_drew ?_ | refine blk_alloc ?_ _)); exact BK279.out⟩, ⟨by repeat (first | (with_reducible first | exact HB.out | apply below_alloc | apply pw_below_drewN | apply below_drew1 | refine below_set ?_ GE279.out) | exact HB.out)⟩⟩
      case rest => as_aux_lemma =>
       clear HC12
       try clear c1
       try clear c2
       try clear p2
       try clear q2
       try clear hx2
       try clear c4
       try clear c4b0
       try clear c4b1
       try clear c5
       try clear c8
       try clear c8b0
       try clear c9
       try clear c9b0
       try clear c20
       try clear c20b0
       try clear c20b1
       try clear c22
       try clear c23
       try clear c23b0
       try clear c23b1
       try clear p27
       try clear q27
       try clear hx27
       try clear hcz16_0
       try clear hcz16_1
       try clear hcz18_0
       try clear hcz18_1
       try clear hfz16_0
       try clear hfz16_1
       try clear hfz18_0
       try clear hfz18_1
       try clear hx278_0
       try clear hx278_1
       try clear p2
       try clear p278
       try clear q278
       obtain ⟨kq, x78_11, rfl, HA, HJ11, HO_5, HO_7, BK279, HB⟩ := hcut
       cases kq with
       | zero => exact absurd HA.out (by simp [laws_FnProbe.j1])
       | succ kj11 =>
        have H := HA.out
        clear HA
        simp only [laws_FnProbe.j1] at H
        by_cases c30 : x78_11 = true
        ·subst c30
         have H1 : (some false) = some r := by rw [if_pos rfl] at H; exact H
         clear H
         have H := H1
         clear H1
         obtain rfl := Option.some.inj H
         go_wp2
         repeat (go_quiet (fail); try go_wp2)
         go_ret
         exact ⟨by first | rfl | (simp [errW_none, errW_some] <;> rfl) | (simp [*, errW_none, errW_some] <;> rfl), by repeat (first | (with_reducible first | exact HB.out | apply below_alloc | apply pw_below_drewN | apply below_drew1 | refine below_set ?_ GE279.out) | exact HB.out)⟩
        ·replace c30 := Bool.eq_false_iff.mpr c30
         subst c30
         have H1 : (if 0 ≤ (t274.length : Int) then (if ((t274.length : Int) : Int).toNat ≤ 281474976710656 then (laws_FnProbe.l0 kj11 l0 t274 t280 t283 (List.replicate ((t274.length : Int) : Int).toNat false) 0 0 ((rd_T45 t274 t277).f0) ((rd_T45 t274 t277).f1)) else (none)) else (none)) = some r := by rw [if_neg (show ¬ (false = true) by decide)] at H; exact H
         clear H
         have H := H1
         clear H1
         by_cases c31 : 0 ≤ (t274.length : Int)
         ·rw [if_pos c31] at H
          have c31b0 := eq_true c31
          have c31b1 : decide (0 ≤ (t274.length : Int)) = true := decide_eq_true c31
          clear c31
          by_cases c32 : ((t274.length : Int) : Int).toNat ≤ 281474976710656
          ·rw [if_pos c32] at H
           have c32b0 := eq_true c32
           have c32b1 : decide (((t274.length : Int) : Int).toNat ≤ 281474976710656) = true := decide_eq_true c32
           clear c32
           obtain ⟨y291, hy291⟩ : ∃ y_ : List Bool, y_ = (List.replicate ((t274.length : Int) : Int).toNat false) := ⟨_, rfl⟩
           replace H : (laws_FnProbe.l0 kj11 l0 t274 t280 t283 y291 0 0 ((rd_T45 t274 t277).f0) ((rd_T45 t274 t277).f1)) = some r := by first | (rw [hy291]; with_reducible exact H) | (have H2_ := (Option.bind_some _ _).symm.trans H; rw [hy291]; with_reducible exact H2_) | (have H2_ := (Option.bind_some _ _).symm.trans H; with_reducible exact H2_) | with_reducible exact H | (rw [hy291]; exact H) | exact H
           have Ny291 := Aside0.mk hy291
           clear hy291
           have H' := Aside0.mk H
           clear H
           go_wp2_with (first | ((with_reducible refine gate_dst (N := 81) rfl ?_); (try (refine gate_guard (by rfl) ?_; dsimp only)); refine Kd.R_make Kd.bool _ 4 rfl (N := 81) rfl 54 _ _ rfl (t274.length : Int) rfl rfl Try.underlying54 (.bool false) 1 info4 rfl (by decide) (by omega) false (ok := fun _ => True) (okp := fun _ => True) rfl (fun _ hk => hk) trivial (of_decide_eq_true (by first | (with_reducible assumption) | assumption)) (Nat.le_trans (Nat.mul_le_mul_right _ (of_decide_eq_true (by first | (with_reducible assumption) | assumption) : (t274.length : Int).toNat ≤ 281474976710656)) (by omega)) (Below.refl _ _) (Nat.le_refl _) ?_; intro v292 w33 ho34 hb hg_ hnew_; clear hg_ hnew_; (first | rw [← Ny291.out] at ho34 | (simp only [Int.reduceToNat] at ho34; rw [← Ny291.out] at ho34)); have n0_ := Aside0.mk (Kd.R_below (by (with_reducible repeat (first | apply Kd.R_alloc | apply Kd.R_drewN | apply Kd.R_drew)); exact HO_5.out) hb); have n1_ := Aside0.mk (Kd.R_below (by (with_reducible repeat (first | apply Kd.R_alloc | apply Kd.R_drewN | apply Kd.R_drew)); exact HO_7.out) hb); have n2_ := Aside0.mk (Kd.R_lower ho34 (below_size (by repeat (first | (with_reducible first | exact HB.out | apply below_alloc | apply pw_below_drewN | apply below_drew1 | refine below_set ?_ GE279.out) | exact HB.out)))); have n3_ := Aside0.mk (blk_below (g := gb279) (o := .cells #[.int .i64 ((rd_T45 t274 t277).f0), .int .i64 ((rd_T45 t274 t277).f1)] 45 (0, 0)) (by (with_reducible repeat (first | refine blk_drewN ?_ _ | refine blk_drew ?_ | refine blk_alloc ?_ _)); exact BK279.out) hb); have n4_ := Aside0.mk (below_step (by repeat (first | (with_reducible first | exact HB.out | apply below_alloc | apply pw_below_drewN | apply below_drew1 | refine below_set ?_ GE279.out) | exact HB.out)) hb); clear HO_5; clear HO_7; clear BK279; clear HB; have HO_5 := n0_; have HO_7 := n1_; have HO293 := n2_; have BK279 := n3_; have HB := n4_; clear n0_ n1_ n2_ n3_ n4_; clear hb ho34))
           repeat (go_quiet (first | ((with_reducible refine gate_dst (N := 81) rfl ?_); (try (refine gate_guard (by rfl) ?_; dsimp only)); refine Kd.R_make Kd.bool _ 4 rfl (N := 81) rfl 54 _ _ rfl (t274.length : Int) rfl rfl Try.underlying54 (.bool false) 1 info4 rfl (by decide) (by omega) false (ok := fun _ => True) (okp := fun _ => True) rfl (fun _ hk => hk) trivial (of_decide_eq_true (by first | (with_reducible assumption) | assumption)) (Nat.le_trans (Nat.mul_le_mul_right _ (of_decide_eq_true (by first | (with_reducible assumption) | assumption) : (t274.length : Int).toNat ≤ 281474976710656)) (by omega)) (Below.refl _ _) (Nat.le_refl _) ?_; intro v292 w33 ho34 hb hg_ hnew_; clear hg_ hnew_; (first | rw [← Ny291.out] at ho34 | (simp only [Int.reduceToNat] at ho34; rw [← Ny291.out] at ho34)); have n0_ := Aside0.mk (Kd.R_below (by (with_reducible repeat (first | apply Kd.R_alloc | apply Kd.R_drewN | apply Kd.R_drew)); exact HO_5.out) hb); have n1_ := Aside0.mk (Kd.R_below (by (with_reducible repeat (first | apply Kd.R_alloc | apply Kd.R_drewN | apply Kd.R_drew)); exact HO_7.out) hb); have n2_ := Aside0.mk (Kd.R_lower ho34 (below_size (by repeat (first | (with_reducible first | exact HB.out | apply below_alloc | apply pw_below_drewN | apply below_drew1 | refine below_set ?_ GE279.out) | exact HB.out)))); have n3_ := Aside0.mk (blk_below (g := gb279) (o := .cells #[.int .i64 ((rd_T45 t274 t277).f0), .int .i64 ((rd_T45 t274 t277).f1)] 45 (0, 0)) (by (with_reducible repeat (first | refine blk_drewN ?_ _ | refine blk_drew ?_ | refine blk_alloc ?_ _)); exact BK279.out) hb); have n4_ := Aside0.mk (below_step (by repeat (first | (with_reducible first | exact HB.out | apply below_alloc | apply pw_below_drewN | apply below_drew1 | refine below_set ?_ GE279.out) | exact HB.out)) hb); clear HO_5; clear HO_7; clear BK279; clear HB; have HO_5 := n0_; have HO_7 := n1_; have HO293 := n2_; have BK279 := n3_; have HB := n4_; clear n0_ n1_ n2_ n3_ n4_; clear hb ho34)); try go_wp2_with (first | ((with_reducible refine gate_dst (N := 81) rfl ?_); (try (refine gate_guard (by rfl) ?_; dsimp only)); refine Kd.R_make Kd.bool _ 4 rfl (N := 81) rfl 54 _ _ rfl (t274.length : Int) rfl rfl Try.underlying54 (.bool false) 1 info4 rfl (by decide) (by omega) false (ok := fun _ => True) (okp := fun _ => True) rfl (fun _ hk => hk) trivial (of_decide_eq_true (by first | (with_reducible assumption) | assumption)) (Nat.le_trans (Nat.mul_le_mul_right _ (of_decide_eq_true (by first | (with_reducible assumption) | assumption) : (t274.length : Int).toNat ≤ 281474976710656)) (by omega)) (Below.refl _ _) (Nat.le_refl _) ?_; intro v292 w33 ho34 hb hg_ hnew_; clear hg_ hnew_; (first | rw [← Ny291.out] at ho34 | (simp only [Int.reduceToNat] at ho34; rw [← Ny291.out] at ho34)); have n0_ := Aside0.mk (Kd.R_below (by (with_reducible repeat (first | apply Kd.R_alloc | apply Kd.R_drewN | apply Kd.R_drew)); exact HO_5.out) hb); have n1_ := Aside0.mk (Kd.R_below (by (with_reducible repeat (first | apply Kd.R_alloc | apply Kd.R_drewN | apply Kd.R_drew)); exact HO_7.out) hb); have n2_ := Aside0.mk (Kd.R_lower ho34 (below_size (by repeat (first | (with_reducible first | exact HB.out | apply below_alloc | apply pw_below_drewN | apply below_drew1 | refine below_set ?_ GE279.out) | exact HB.out)))); have n3_ := Aside0.mk (blk_below (g := gb279) (o := .cells #[.int .i64 ((rd_T45 t274 t277).f0), .int .i64 ((rd_T45 t274 t277).f1)] 45 (0, 0)) (by (with_reducible repeat (first | refine blk_drewN ?_ _ | refine blk_drew ?_ | refine blk_alloc ?_ _)); exact BK279.out) hb); have n4_ := Aside0.mk (below_step (by repeat (first | (with_reducible first | exact HB.out | apply below_alloc | apply pw_below_drewN | apply below_drew1 | refine below_set ?_ GE279.out) | exact HB.out)) hb); clear HO_5; clear HO_7; clear BK279; clear HB; have HO_5 := n0_; have HO_7 := n1_; have HO293 := n2_; have BK279 := n3_; have HB := n4_; clear n0_ n1_ n2_ n3_ n4_; clear hb ho34)))
           go_loopg [14, 15] kj11 (fun kq v14 v15 w' => ∃ (x13_3 : List Bool) (x14_3 : Int) (x15_3 : Int) (x280000_3 : Int) (x280001_3 : Int), v14 = .int .i64 x14_3 ∧ v15 = .int .i64 x15_3 ∧ Aside0 (laws_FnProbe.l0 kq l0 t274 t280 t283 x13_3 x14_3 x15_3 x280000_3 x280001_3 = some r) ∧ Aside0 (kq ≤ kj11) ∧ Aside0 (Kd.R k45 45 w' w.heap.size (fun k_ => k_ ≠ gb279) (.slice (some ad278) t274.length co14) t274) ∧ Aside0 (Kd.R (Kd.int .i64) 3 w' w.heap.size (fun _ => True) v281 t280) ∧ Aside0 (Kd.R Kd.bool 4 w' w.heap.size (fun _ => True) v292 x13_3) ∧ Aside0 (w'.heap[gb279]? = some (.cells #[.int .i64 x280000_3, .int .i64 x280001_3] 45 (0, 0))) ∧ Aside0 (Below w.heap.size w w'))
           case atStart => exact ⟨(y291), (0), (0), (((rd_T45 t274 t277).f0)), (((rd_T45 t274 t277).f1)), (by first | rfl | (simp; done) | (simp [*]; done)), (by first | rfl | (simp; done) | (simp [*]; done)), H', ⟨Nat.le_refl _⟩, ⟨by (with_reducible repeat (first | apply Kd.R_alloc | apply Kd.R_drewN | apply Kd.R_drew)); exact HO_5.out⟩, ⟨by (with_reducible repeat (first | apply Kd.R_alloc | apply Kd.R_drewN | apply Kd.R_drew)); exact HO_7.out⟩, ⟨by (with_reducible repeat (first | apply Kd.R_alloc | apply Kd.R_drewN | apply Kd.R_drew)); exact HO293.out⟩, ⟨by (with_reducible repeat (first | refine blk_drewN ?_ _ | refine blk_drew ?_ | refine blk_alloc ?_ _)); exact BK279.out⟩, ⟨by repeat (first | (with_reducible first | exact HB.out | apply below_alloc | apply pw_below_drewN | apply below_drew1 | refine below_set ?_ GE279.out) | exact HB.out)⟩⟩
           case round => as_aux_lemma =>
            clear H'
            try clear c1
            try clear c2
            try clear p2
            try clear q2
            try clear hx2
            try clear c3
            try clear c4
            try clear c4b0
            try clear c4b1
            try clear c5
            try clear c8
            try clear c8b0
            try clear c9
            try clear c9b0
            try clear c20
            try clear c20b0
            try clear c20b1
            try clear c22
            try clear c23
            try clear c23b0
            try clear c23b1
            try clear p27
            try clear q27
            try clear hx27
            try clear c30
            try clear c31
            try clear c31b0
            try clear c31b1
            try clear c32
            try clear c32b0
            try clear c32b1
            try clear hcz16_0
            try clear hcz16_1
            try clear hcz18_0
            try clear hcz18_1
            try clear hfz16_0
            try clear hfz16_1
            try clear hfz18_0
            try clear hfz18_1
            try clear hx278_0
            try clear hx278_1
            try clear p2
            try clear p27
            try clear p278
            try clear q2
            try clear q27
            try clear q278
            obtain ⟨x13_3, x14_3, x15_3, x280000_3, x280001_3, rfl, rfl, HA, HK3, HO_5, HO_7, HO_13, BK279, HB⟩ := hrel
            cases gk with
            | zero => exact absurd HA.out (by simp [laws_FnProbe.l0])
            | succ k3 =>
             have H := HA.out
             clear HA
             simp only [laws_FnProbe.l0] at H
             by_cases c35 : x15_3 < (t280.length : Int)
             ·rw [if_pos c35] at H
              have c35b0 : decide (x15_3 < (t280.length : Int)) = true := decide_eq_true c35
              clear c35
              have HC36 := Aside0.mk H
              clear H
              obtain ⟨Ao37, co37, eo37⟩ := Kd.R_slice HO_7.out
              subst eo37
              go_upto_region 14 with (fail)
              repeat (go_quiet (fail); go_upto_region 14 with (fail))
              go_cut [110] (fun v110 wc => ∃ (kq : Nat) (x110_35 : Bool), v110 = .bool x110_35 ∧ Aside0 (laws_FnProbe.j3 kq l0 t274 t280 t283 x13_3 x14_3 x15_3 x110_35 x280000_3 x280001_3 = some r) ∧ Aside0 (kq ≤ k3) ∧ Aside0 (Kd.R k45 45 wc w.heap.size (fun k_ => k_ ≠ gb279) (.slice (some ad278) t274.length co14) t274) ∧ Aside0 (Kd.R (Kd.int .i64) 3 wc w.heap.size (fun _ => True) (.slice Ao37 t280.length co37) t280) ∧ Aside0 (Kd.R Kd.bool 4 wc w.heap.size (fun _ => True) v292 x13_3) ∧ Aside0 (wc.heap[gb279]? = some (.cells #[.int .i64 x280000_3, .int .i64 x280001_3] 45 (0, 0))) ∧ Aside0 (Below w.heap.size w wc))
              case first => as_aux_lemma =>
               have H := HC36.out
               clear HC36
               by_cases c38 : 0 ≤ x15_3
               ·rw [if_pos c38] at H
                have c38b0 : decide (0 ≤ x15_3) = true := decide_eq_true c38
                clear c38
                (first | rw [c38b0] | (simp only [i64_w, i32_w]; rw [c38b0]) | skip)
                by_cases c39 : (rd t280 x15_3) < 0
                ·rw [if_pos c39] at H
                 have c39b0 : decide ((rd t280 x15_3) < 0) = true := decide_eq_true c39
                 clear c39
                 have H' := Aside0.mk H
                 clear H
                 have p294 : 0 ≤ (x15_3 : Int) := of_decide_eq_true (by first | (with_reducible assumption) | assumption)
                 have q294 : x15_3 < (t280.length : Int) := of_decide_eq_true (by first | (with_reducible assumption) | assumption)
                 obtain ⟨ad294, e294, hx294_0⟩ := Kd.at_int (Kd.R_reads' HO_7.out).2.2 x15_3 p294 q294
                 cases e294
                 replace p294 := eq_true p294
                 replace q294 := eq_true q294
                 go_wp2
                 repeat (go_quiet (fail); try go_wp2)
                 go_meet
                 case rel => exact ⟨_, (true), (by first | rfl | (simp; done) | (simp [*]; done)), H', ⟨by have := HJ2.out; have := HJ11.out; have := HK3.out; first | omega | exact Nat.le_refl _⟩, ⟨by (with_reducible repeat (first | apply Kd.R_alloc | apply Kd.R_drewN | apply Kd.R_drew)); exact HO_5.out⟩, ⟨by (with_reducible repeat (first | apply Kd.R_alloc | apply Kd.R_drewN | apply Kd.R_drew)); exact HO_7.out⟩, ⟨by (with_reducible repeat (first | apply Kd.R_alloc | apply Kd.R_drewN | apply Kd.R_drew)); exact HO_13.out⟩, ⟨by (with_reducible repeat (first | refine blk_drewN ?_ _ | refine blk_drew ?_ | refine blk_alloc ?_ _)); exact BK279.out⟩, ⟨by repeat (first | (with_reducible first | exact HB.out | apply below_alloc | apply pw_below_drewN | apply below_drew1 | refine below_set ?_ GE279.out) | exact HB.out)⟩⟩
                ·rw [if_neg c39] at H
                 have c39b0 : decide ((rd t280 x15_3) < 0) = false := decide_eq_false c39
                 clear c39
                 by_cases c40 : (rd t280 x15_3) ≥ (t274.length : Int)
                 ·rw [if_pos c40] at H
                  have c40b0 : decide ((t274.length : Int) ≤ (rd t280 x15_3)) = true := decide_eq_true c40
                  clear c40
                  have H' := Aside0.mk H
                  clear H
                  have p294 : 0 ≤ (x15_3 : Int) := of_decide_eq_true (by first | (with_reducible assumption) | assumption)
                  have q294 : x15_3 < (t280.length : Int) := of_decide_eq_true (by first | (with_reducible assumption) | assumption)
                  obtain ⟨ad294, e294, hx294_0⟩ := Kd.at_int (Kd.R_reads' HO_7.out).2.2 x15_3 p294 q294
                  cases e294
                  replace p294 := eq_true p294
                  replace q294 := eq_true q294
                  have p295 : 0 ≤ (x15_3 : Int) := of_decide_eq_true (by first | (with_reducible assumption) | assumption)
                  have q295 : x15_3 < (t280.length : Int) := of_decide_eq_true (by first | (with_reducible assumption) | assumption)
                  obtain ⟨ad295, e295, hx295_0⟩ := Kd.at_int (Kd.R_reads' HO_7.out).2.2 x15_3 p295 q295
                  obtain rfl : ad294 = ad295 := (by injection e295)
                  replace p295 := eq_true p295
                  replace q295 := eq_true q295
                  go_wp2
                  repeat (go_quiet (fail); try go_wp2)
                  go_meet
                  case rel => exact ⟨_, (true), (by first | rfl | (simp; done) | (simp [*]; done)), H', ⟨by have := HJ2.out; have := HJ11.out; have := HK3.out; first | omega | exact Nat.le_refl _⟩, ⟨by (with_reducible repeat (first | apply Kd.R_alloc | apply Kd.R_drewN | apply Kd.R_drew)); exact HO_5.out⟩, ⟨by (with_reducible repeat (first | apply Kd.R_alloc | apply Kd.R_drewN | apply Kd.R_drew)); exact HO_7.out⟩, ⟨by (with_reducible repeat (first | apply Kd.R_alloc | apply Kd.R_drewN | apply Kd.R_drew)); exact HO_13.out⟩, ⟨by (with_reducible repeat (first | refine blk_drewN ?_ _ | refine blk_drew ?_ | refine blk_alloc ?_ _)); exact BK279.out⟩, ⟨by repeat (first | (with_reducible first | exact HB.out | apply below_alloc | apply pw_below_drewN | apply below_drew1 | refine below_set ?_ GE279.out) | exact HB.out)⟩⟩
                 ·rw [if_neg c40] at H
                  have c40b0 : decide ((t274.length : Int) ≤ (rd t280 x15_3)) = false := decide_eq_false c40
                  clear c40
                  by_cases c41 : 0 ≤ (rd t280 x15_3)
                  ·rw [if_pos c41] at H
                   have c41b0 : decide (0 ≤ (rd t280 x15_3)) = true := decide_eq_true c41
                   clear c41
                   by_cases c42 : (rd t280 x15_3) < (x13_3.length : Int)
                   ·rw [if_pos c42] at H
                    have c42b0 : decide ((rd t280 x15_3) < (x13_3.length : Int)) = true := decide_eq_true c42
                    clear c42
                    have H' := Aside0.mk H
                    clear H
                    have p294 : 0 ≤ (x15_3 : Int) := of_decide_eq_true (by first | (with_reducible assumption) | assumption)
                    have q294 : x15_3 < (t280.length : Int) := of_decide_eq_true (by first | (with_reducible assumption) | assumption)
                    obtain ⟨ad294, e294, hx294_0⟩ := Kd.at_int (Kd.R_reads' HO_7.out).2.2 x15_3 p294 q294
                    cases e294
                    replace p294 := eq_true p294
                    replace q294 := eq_true q294
                    have p295 : 0 ≤ (x15_3 : Int) := of_decide_eq_true (by first | (with_reducible assumption) | assumption)
                    have q295 : x15_3 < (t280.length : Int) := of_decide_eq_true (by first | (with_reducible assumption) | assumption)
                    obtain ⟨ad295, e295, hx295_0⟩ := Kd.at_int (Kd.R_reads' HO_7.out).2.2 x15_3 p295 q295
                    obtain rfl : ad294 = ad295 := (by injection e295)
                    replace p295 := eq_true p295
                    replace q295 := eq_true q295
                    have p296 : 0 ≤ (x15_3 : Int) := of_decide_eq_true (by first | (with_reducible assumption) | assumption)
                    have q296 : x15_3 < (t280.length : Int) := of_decide_eq_true (by first | (with_reducible assumption) | assumption)
                    obtain ⟨ad296, e296, hx296_0⟩ := Kd.at_int (Kd.R_reads' HO_7.out).2.2 x15_3 p296 q296
                    obtain rfl : ad294 = ad296 := (by injection e296)
                    replace p296 := eq_true p296
                    replace q296 := eq_true q296
                    obtain ⟨Ao43, co43, eo43⟩ := Kd.R_slice HO_13.out
                    subst eo43
                    have p297 : 0 ≤ ((rd t280 x15_3) : Int) := of_decide_eq_true (by first | (with_reducible assumption) | assumption)
                    have q297 : (rd t280 x15_3) < (x13_3.length : Int) := of_decide_eq_true (by first | (with_reducible assumption) | assumption)
                    obtain ⟨ad297, e297, hx297_0⟩ := Kd.at_bool (Kd.R_reads' HO_13.out).2.2 (rd t280 x15_3) p297 q297
                    cases e297
                    replace p297 := eq_true p297
                    replace q297 := eq_true q297
                    go_wp2
                    repeat (go_quiet (fail); try go_wp2)
                    go_meet
                    case rel => exact ⟨_, (rdOf false x13_3 (rd t280 x15_3)), (by first | rfl | (simp; done) | (simp [*]; done)), H', ⟨by have := HJ2.out; have := HJ11.out; have := HK3.out; first | omega | exact Nat.le_refl _⟩, ⟨by (with_reducible repeat (first | apply Kd.R_alloc | apply Kd.R_drewN | apply Kd.R_drew)); exact HO_5.out⟩, ⟨by (with_reducible repeat (first | apply Kd.R_alloc | apply Kd.R_drewN | apply Kd.R_drew)); exact HO_7.out⟩, ⟨by (with_reducible repeat (first | apply Kd.R_alloc | apply Kd.R_drewN | apply Kd.R_drew)); exact HO_13.out⟩, ⟨by (with_reducible repeat (first | refine blk_drewN ?_ _ | refine blk_drew ?_ | refine blk_alloc ?_ _)); exact BK279.out⟩, ⟨by repeat (first | (with_reducible first | exact HB.out | apply below_alloc | apply pw_below_drewN | apply below_drew1 | refine below_set ?_ GE279.out) | exact HB.out)⟩⟩
                   ·rw [if_neg c42] at H
                    exact absurd H (by simp)
                  ·rw [if_neg c41] at H
                   exact absurd H (by simp)
               ·rw [if_neg c38] at H
                exact absurd H (by simp)
              case rest => as_aux_lemma =>
               clear HC36
               try clear c1
               try clear c2
               try clear p2
               try clear q2
               try clear hx2
               try clear c3
               try clear c4
               try clear c4b0
               try clear c4b1
               try clear c5
               try clear c8
               try clear c8b0
               try clear c9
               try clear c9b0
               try clear c20
               try clear c20b0
               try clear c20b1
               try clear c22
               try clear c23
               try clear c23b0
               try clear c23b1
               try clear p27
               try clear q27
               try clear hx27
               try clear p29
               try clear q29
               try clear hx29
               try clear c30
               try clear c31
               try clear c31b0
               try clear c31b1
               try clear c32
               try clear c32b0
               try clear c32b1
               try clear c35
               try clear c35b0
               try clear c38
               try clear c38b0
               try clear c39
               try clear c39b0
               try clear c40
               try clear c40b0
               try clear c41
               try clear c41b0
               try clear c42
               try clear c42b0
               try clear hcz16_0
               try clear hcz16_1
               try clear hcz18_0
               try clear hcz18_1
               try clear hfz16_0
               try clear hfz16_1
               try clear hfz18_0
               try clear hfz18_1
               try clear hx278_0
               try clear hx278_1
               try clear hx294_0
               try clear hx295_0
               try clear hx296_0
               try clear hx297_0
               try clear p2
               try clear p27
               try clear p278
               try clear p294
               try clear p295
               try clear p296
               try clear p297
               try clear q2
               try clear q27
               try clear q278
               try clear q294
               try clear q295
               try clear q296
               try clear q297
               obtain ⟨kq, x110_35, rfl, HA, HJ35, HO_5, HO_7, HO_13, BK279, HB⟩ := hcut
               cases kq with
               | zero => exact absurd HA.out (by simp [laws_FnProbe.j3])
               | succ kj35 =>
                have H := HA.out
                clear HA
                simp only [laws_FnProbe.j3] at H
                by_cases c44 : x110_35 = true
                ·subst c44
                 have H1 : (some false) = some r := by rw [if_pos rfl] at H; exact H
                 clear H
                 have H := H1
                 clear H1
                 obtain rfl := Option.some.inj H
                 go_wp2
                 repeat (go_quiet (fail); try go_wp2)
                 go_ret
                 exact ⟨by first | rfl | (simp [errW_none, errW_some] <;> rfl) | (simp [*, errW_none, errW_some] <;> rfl), by repeat (first | (with_reducible first | exact HB.out | apply below_alloc | apply pw_below_drewN | apply below_drew1 | refine below_set ?_ GE279.out) | exact HB.out)⟩
                ·replace c44 := Bool.eq_false_iff.mpr c44
                 subst c44
                 have H1 : (if 0 ≤ x15_3 then (if x15_3 < (t280.length : Int) then (if 0 ≤ (rd t280 x15_3) then (if (rd t280 x15_3) < (t274.length : Int) then ((laws_abs.f (wrap64 (((rd_T45 t274 (rd t280 x15_3)).f0) - x280000_3))).bind fun t300 => ((laws_abs.f (wrap64 (((rd_T45 t274 (rd t280 x15_3)).f1) - x280001_3))).bind fun t303 => (laws_FnProbe.l1 kj35 l0 t274 t280 t283 x13_3 x14_3 x15_3 (wrap64 (t300 + t303)) 0 x280000_3 x280001_3))) else (none)) else (none)) else (none)) else (none)) = some r := by rw [if_neg (show ¬ (false = true) by decide)] at H; exact H
                 clear H
                 have H := H1
                 clear H1
                 by_cases c45 : 0 ≤ x15_3
                 ·rw [if_pos c45] at H
                  have c45b0 : decide (0 ≤ x15_3) = true := decide_eq_true c45
                  clear c45
                  by_cases c46 : x15_3 < (t280.length : Int)
                  ·rw [if_pos c46] at H
                   have c46b0 : decide (x15_3 < (t280.length : Int)) = true := decide_eq_true c46
                   clear c46
                   by_cases c47 : 0 ≤ (rd t280 x15_3)
                   ·rw [if_pos c47] at H
                    have c47b0 : decide (0 ≤ (rd t280 x15_3)) = true := decide_eq_true c47
                    clear c47
                    by_cases c48 : (rd t280 x15_3) < (t274.length : Int)
                    ·rw [if_pos c48] at H
                     have c48b0 : decide ((rd t280 x15_3) < (t274.length : Int)) = true := decide_eq_true c48
                     clear c48
                     replace H := Option.bind_eq_some_iff.mp H
                     obtain ⟨t300, A490, H⟩ := H
                     replace H : ((laws_abs.f (wrap64 (((rd_T45 t274 (rd t280 x15_3)).f1) - x280001_3))).bind fun t303 => (laws_FnProbe.l1 kj35 l0 t274 t280 t283 x13_3 x14_3 x15_3 (wrap64 (t300 + t303)) 0 x280000_3 x280001_3)) = some r := H
                     have A49 := Aside0.mk A490
                     clear A490
                     replace H := Option.bind_eq_some_iff.mp H
                     obtain ⟨t303, A500, H⟩ := H
                     replace H : (laws_FnProbe.l1 kj35 l0 t274 t280 t283 x13_3 x14_3 x15_3 (wrap64 (t300 + t303)) 0 x280000_3 x280001_3) = some r := H
                     have A50 := Aside0.mk A500
                     clear A500
                     have H' := Aside0.mk H
                     clear H
                     have p298 : 0 ≤ (x15_3 : Int) := of_decide_eq_true (by first | (with_reducible assumption) | assumption)
                     have q298 : x15_3 < (t280.length : Int) := of_decide_eq_true (by first | (with_reducible assumption) | assumption)
                     obtain ⟨ad298, e298, hx298_0⟩ := Kd.at_int (Kd.R_reads' HO_7.out).2.2 x15_3 p298 q298
                     cases e298
                     replace p298 := eq_true p298
                     replace q298 := eq_true q298
                     have p299 : 0 ≤ ((rd t280 x15_3) : Int) := of_decide_eq_true (by first | (with_reducible assumption) | assumption)
                     have q299 : (rd t280 x15_3) < (t274.length : Int) := of_decide_eq_true (by first | (with_reducible assumption) | assumption)
                     obtain ⟨ad299, e299, hx299_0, hx299_1⟩ := at_T45 (Kd.R_reads' HO_5.out).2.2 (rd t280 x15_3) p299 q299
                     obtain rfl : ad278 = ad299 := (by injection e299)
                     replace p299 := eq_true p299
                     replace q299 := eq_true q299
                     have hcz51_0 : wc.cell? ⟨gb279, 0, none⟩ = some (.int .i64 x280000_3) := (blk_cell BK279.out 0).trans rfl
                     have hcz51_1 : wc.cell? ⟨gb279, 1, none⟩ = some (.int .i64 x280001_3) := (blk_cell BK279.out 1).trans rfl
                     have hfz51_0 := blk_frozen BK279.out 0
                     have hfz51_1 := blk_frozen BK279.out 1
                     go_wp2_with (first | (go_at_call 14; (with_reducible refine (laws_abs.calls (wrap64 (((rd_T45 t274 (rd t280 x15_3)).f0) - x280000_3)) t300 _ A49.out).mono ?_); rintro e w' ⟨rfl, ⟨nd, rfl⟩⟩; (try first | exact ⟨rfl, _, World.drewN_drewN _ _ _⟩ | exact ⟨rfl, _, Eq.trans (World.drewN_drewN _ _ _) (congrArg (World.drewN _) (Nat.add_assoc _ _ _))⟩); have p301 : 0 ≤ (x15_3 : Int) := of_decide_eq_true (by first | (with_reducible assumption) | assumption); have q301 : x15_3 < (t280.length : Int) := of_decide_eq_true (by first | (with_reducible assumption) | assumption); obtain ⟨ad301, e301, hx301_0⟩ := Kd.at_int (Kd.R_reads' HO_7.out).2.2 x15_3 p301 q301; obtain rfl : ad298 = ad301 := (by injection e301); replace p301 := eq_true p301; replace q301 := eq_true q301; have p302 : 0 ≤ ((rd t280 x15_3) : Int) := of_decide_eq_true (by first | (with_reducible assumption) | assumption); have q302 : (rd t280 x15_3) < (t274.length : Int) := of_decide_eq_true (by first | (with_reducible assumption) | assumption); obtain ⟨ad302, e302, hx302_0, hx302_1⟩ := at_T45 (Kd.R_reads' HO_5.out).2.2 (rd t280 x15_3) p302 q302; obtain rfl : ad278 = ad302 := (by injection e302); replace p302 := eq_true p302; replace q302 := eq_true q302) | (go_at_call 14; (with_reducible refine (laws_abs.calls (wrap64 (((rd_T45 t274 (rd t280 x15_3)).f1) - x280001_3)) t303 _ A50.out).mono ?_); rintro e w' ⟨rfl, ⟨nd, rfl⟩⟩; (try first | exact ⟨rfl, _, World.drewN_drewN _ _ _⟩ | exact ⟨rfl, _, Eq.trans (World.drewN_drewN _ _ _) (congrArg (World.drewN _) (Nat.add_assoc _ _ _))⟩)))
                     repeat (go_quiet (first | (go_at_call 14; (with_reducible refine (laws_abs.calls (wrap64 (((rd_T45 t274 (rd t280 x15_3)).f0) - x280000_3)) t300 _ A49.out).mono ?_); rintro e w' ⟨rfl, ⟨nd, rfl⟩⟩; (try first | exact ⟨rfl, _, World.drewN_drewN _ _ _⟩ | exact ⟨rfl, _, Eq.trans (World.drewN_drewN _ _ _) (congrArg (World.drewN _) (Nat.add_assoc _ _ _))⟩); have p301 : 0 ≤ (x15_3 : Int) := of_decide_eq_true (by first | (with_reducible assumption) | assumption); have q301 : x15_3 < (t280.length : Int) := of_decide_eq_true (by first | (with_reducible assumption) | assumption); obtain ⟨ad301, e301, hx301_0⟩ := Kd.at_int (Kd.R_reads' HO_7.out).2.2 x15_3 p301 q301; obtain rfl : ad298 = ad301 := (by injection e301); replace p301 := eq_true p301; replace q301 := eq_true q301; have p302 : 0 ≤ ((rd t280 x15_3) : Int) := of_decide_eq_true (by first | (with_reducible assumption) | assumption); have q302 : (rd t280 x15_3) < (t274.length : Int) := of_decide_eq_true (by first | (with_reducible assumption) | assumption); obtain ⟨ad302, e302, hx302_0, hx302_1⟩ := at_T45 (Kd.R_reads' HO_5.out).2.2 (rd t280 x15_3) p302 q302; obtain rfl : ad278 = ad302 := (by injection e302); replace p302 := eq_true p302; replace q302 := eq_true q302) | (go_at_call 14; (with_reducible refine (laws_abs.calls (wrap64 (((rd_T45 t274 (rd t280 x15_3)).f1) - x280001_3)) t303 _ A50.out).mono ?_); rintro e w' ⟨rfl, ⟨nd, rfl⟩⟩; (try first | exact ⟨rfl, _, World.drewN_drewN _ _ _⟩ | exact ⟨rfl, _, Eq.trans (World.drewN_drewN _ _ _) (congrArg (World.drewN _) (Nat.add_assoc _ _ _))⟩))); try go_wp2_with (first | (go_at_call 14; (with_reducible refine (laws_abs.calls (wrap64 (((rd_T45 t274 (rd t280 x15_3)).f0) - x280000_3)) t300 _ A49.out).mono ?_); rintro e w' ⟨rfl, ⟨nd, rfl⟩⟩; (try first | exact ⟨rfl, _, World.drewN_drewN _ _ _⟩ | exact ⟨rfl, _, Eq.trans (World.drewN_drewN _ _ _) (congrArg (World.drewN _) (Nat.add_assoc _ _ _))⟩); have p301 : 0 ≤ (x15_3 : Int) := of_decide_eq_true (by first | (with_reducible assumption) | assumption); have q301 : x15_3 < (t280.length : Int) := of_decide_eq_true (by first | (with_reducible assumption) | assumption); obtain ⟨ad301, e301, hx301_0⟩ := Kd.at_int (Kd.R_reads' HO_7.out).2.2 x15_3 p301 q301; obtain rfl : ad298 = ad301 := (by injection e301); replace p301 := eq_true p301; replace q301 := eq_true q301; have p302 : 0 ≤ ((rd t280 x15_3) : Int) := of_decide_eq_true (by first | (with_reducible assumption) | assumption); have q302 : (rd t280 x15_3) < (t274.length : Int) := of_decide_eq_true (by first | (with_reducible assumption) | assumption); obtain ⟨ad302, e302, hx302_0, hx302_1⟩ := at_T45 (Kd.R_reads' HO_5.out).2.2 (rd t280 x15_3) p302 q302; obtain rfl : ad278 = ad302 := (by injection e302); replace p302 := eq_true p302; replace q302 := eq_true q302) | (go_at_call 14; (with_reducible refine (laws_abs.calls (wrap64 (((rd_T45 t274 (rd t280 x15_3)).f1) - x280001_3)) t303 _ A50.out).mono ?_); rintro e w' ⟨rfl, ⟨nd, rfl⟩⟩; (try first | exact ⟨rfl, _, World.drewN_drewN _ _ _⟩ | exact ⟨rfl, _, Eq.trans (World.drewN_drewN _ _ _) (congrArg (World.drewN _) (Nat.add_assoc _ _ _))⟩))))
                     go_loopg [17] kj35 (fun kq v17 w' => ∃ (x17_5 : Int), v17 = .int .i64 x17_5 ∧ Aside0 (laws_FnProbe.l1 kq l0 t274 t280 t283 x13_3 x14_3 x15_3 (wrap64 (t300 + t303)) x17_5 x280000_3 x280001_3 = some r) ∧ Aside0 (kq ≤ kj35) ∧ Aside0 (Kd.R k45 45 w' w.heap.size (fun k_ => k_ ≠ gb279) (.slice (some ad278) t274.length co14) t274) ∧ Aside0 (Kd.R (Kd.int .i64) 3 w' w.heap.size (fun _ => True) (.slice (some ad298) t280.length co37) t280) ∧ Aside0 (Kd.R Kd.bool 4 w' w.heap.size (fun _ => True) v292 x13_3) ∧ Aside0 (w'.heap[gb279]? = some (.cells #[.int .i64 x280000_3, .int .i64 x280001_3] 45 (0, 0))) ∧ Aside0 (Below w.heap.size w w'))
                     case atStart => exact ⟨(0), (by first | rfl | (simp; done) | (simp [*]; done)), H', ⟨Nat.le_refl _⟩, ⟨by (with_reducible repeat (first | apply Kd.R_alloc | apply Kd.R_drewN | apply Kd.R_drew)); exact HO_5.out⟩, ⟨by (with_reducible repeat (first | apply Kd.R_alloc | apply Kd.R_drewN | apply Kd.R_drew)); exact HO_7.out⟩, ⟨by (with_reducible repeat (first | apply Kd.R_alloc | apply Kd.R_drewN | apply Kd.R_drew)); exact HO_13.out⟩, ⟨by (with_reducible repeat (first | refine blk_drewN ?_ _ | refine blk_drew ?_ | refine blk_alloc ?_ _)); exact BK279.out⟩, ⟨by repeat (first | (with_reducible first | exact HB.out | apply below_alloc | apply pw_below_drewN | apply below_drew1 | refine below_set ?_ GE279.out) | exact HB.out)⟩⟩
                     case round => as_aux_lemma =>
                      clear H'
                      try clear c1
                      try clear c2
                      try clear p2
                      try clear q2
                      try clear hx2
                      try clear c3
                      try clear p3
                      try clear q3
                      try clear hx3
                      try clear c4
                      try clear c4b0
                      try clear c4b1
                      try clear c5
                      try clear p6
                      try clear c8
                      try clear c8b0
                      try clear c9
                      try clear c9b0
                      try clear c20
                      try clear c20b0
                      try clear c20b1
                      try clear c22
                      try clear c23
                      try clear c23b0
                      try clear c23b1
                      try clear p27
                      try clear q27
                      try clear hx27
                      try clear p29
                      try clear q29
                      try clear hx29
                      try clear c30
                      try clear p30
                      try clear q30
                      try clear hx30
                      try clear c31
                      try clear c31b0
                      try clear c31b1
                      try clear c32
                      try clear c32b0
                      try clear c32b1
                      try clear c35
                      try clear c35b0
                      try clear c38
                      try clear c38b0
                      try clear c39
                      try clear c39b0
                      try clear c40
                      try clear c40b0
                      try clear c41
                      try clear c41b0
                      try clear c42
                      try clear c42b0
                      try clear c44
                      try clear c45
                      try clear c45b0
                      try clear c46
                      try clear c46b0
                      try clear c47
                      try clear c47b0
                      try clear c48
                      try clear c48b0
                      try clear hcz16_0
                      try clear hcz16_1
                      try clear hcz18_0
                      try clear hcz18_1
                      try clear hcz51_0
                      try clear hcz51_1
                      try clear hfz16_0
                      try clear hfz16_1
                      try clear hfz18_0
                      try clear hfz18_1
                      try clear hfz51_0
                      try clear hfz51_1
                      try clear hx278_0
                      try clear hx278_1
                      try clear hx294_0
                      try clear hx295_0
                      try clear hx296_0
                      try clear hx297_0
                      try clear hx298_0
                      try clear hx299_0
                      try clear hx299_1
                      try clear hx301_0
                      try clear hx302_0
                      try clear hx302_1
                      try clear p2
                      try clear p27
                      try clear p278
                      try clear p29
                      try clear p294
                      try clear p295
                      try clear p296
                      try clear p297
                      try clear p298
                      try clear p299
                      try clear p301
                      try clear p302
                      try clear q2
                      try clear q27
                      try clear q278
                      try clear q29
                      try clear q294
                      try clear q295
                      try clear q296
                      try clear q297
                      try clear q298
                      try clear q299
                      try clear q301
                      try clear q302
                      obtain ⟨x17_5, rfl, HA, HK5, HO_5, HO_7, HO_13, BK279, HB⟩ := hrel
                      cases gk with
                      | zero => exact absurd HA.out (by simp [laws_FnProbe.l1])
                      | succ k5 =>
                       have H := HA.out
                       clear HA
                       simp only [laws_FnProbe.l1] at H
                       by_cases c52 : x17_5 < (t274.length : Int)
                       ·rw [if_pos c52] at H
                        have c52b0 : decide (x17_5 < (t274.length : Int)) = true := decide_eq_true c52
                        clear c52
                        have HC53 := Aside0.mk H
                        clear H
                        go_upto_block 3 with (fail)
                        repeat (go_quiet (fail); go_upto_block 3 with (fail))
                        go_cut [] (fun wc => ∃ (kq : Nat), Aside0 (laws_FnProbe.j5 kq l0 t274 t280 t283 x13_3 x14_3 x15_3 (wrap64 (t300 + t303)) x17_5 x280000_3 x280001_3 = some r) ∧ Aside0 (kq ≤ k5) ∧ Aside0 (Kd.R k45 45 wc w.heap.size (fun k_ => k_ ≠ gb279) (.slice (some ad278) t274.length co14) t274) ∧ Aside0 (Kd.R (Kd.int .i64) 3 wc w.heap.size (fun _ => True) (.slice (some ad298) t280.length co37) t280) ∧ Aside0 (Kd.R Kd.bool 4 wc w.heap.size (fun _ => True) v292 x13_3) ∧ Aside0 (wc.heap[gb279]? = some (.cells #[.int .i64 x280000_3, .int .i64 x280001_3] 45 (0, 0))) ∧ Aside0 (Below w.heap.size w wc))
                        case first => as_aux_lemma =>
                         have H := HC53.out
                         clear HC53
                         by_cases c54 : 0 ≤ x17_5
                         ·rw [if_pos c54] at H
                          have c54b0 : decide (0 ≤ x17_5) = true := decide_eq_true c54
                          clear c54
                          (first | rw [c54b0] | (simp only [i64_w, i32_w]; rw [c54b0]) | skip)
                          by_cases c55 : x17_5 < (x13_3.length : Int)
                          ·rw [if_pos c55] at H
                           have c55b0 : decide (x17_5 < (x13_3.length : Int)) = true := decide_eq_true c55
                           clear c55
                           obtain ⟨bq56, hbq56⟩ : ∃ b_ : Bool, b_ = (rdOf false x13_3 x17_5) := ⟨_, rfl⟩
                           replace H : (if bq56 = true then (laws_FnProbe.j5 k5 l0 t274 t280 t283 x13_3 x14_3 x15_3 (wrap64 (t300 + t303)) x17_5 x280000_3 x280001_3) else ((laws_abs.f (wrap64 (((rd_T45 t274 x17_5).f0) - x280000_3))).bind fun t306 => ((laws_abs.f (wrap64 (((rd_T45 t274 x17_5).f1) - x280001_3))).bind fun t308 => (if (wrap64 (t306 + t308)) < (wrap64 (t300 + t303)) then (some false) else (laws_FnProbe.j5 k5 l0 t274 t280 t283 x13_3 x14_3 x15_3 (wrap64 (t300 + t303)) x17_5 x280000_3 x280001_3))))) = some r := by rw [← hbq56] at H; exact H
                           have Nbq56 := Aside0.mk hbq56
                           clear hbq56
                           by_cases c57 : bq56 = true
                           ·subst c57
                            have H1 : (laws_FnProbe.j5 k5 l0 t274 t280 t283 x13_3 x14_3 x15_3 (wrap64 (t300 + t303)) x17_5 x280000_3 x280001_3) = some r := by rw [if_pos rfl] at H; exact H
                            clear H
                            have H := H1
                            clear H1
                            have H' := Aside0.mk H
                            clear H
                            obtain ⟨Ao58, co58, eo58⟩ := Kd.R_slice HO_13.out
                            subst eo58
                            have p304 : 0 ≤ (x17_5 : Int) := of_decide_eq_true (by first | (with_reducible assumption) | assumption)
                            have q304 : x17_5 < (x13_3.length : Int) := of_decide_eq_true (by first | (with_reducible assumption) | assumption)
                            obtain ⟨ad304, e304, hx304_0⟩ := Kd.at_bool (Kd.R_reads' HO_13.out).2.2 x17_5 p304 q304
                            (try rw [← Nbq56.out] at hx304_0)
                            cases e304
                            replace p304 := eq_true p304
                            replace q304 := eq_true q304
                            go_wp2
                            repeat (go_quiet (fail); try go_wp2)
                            go_meet
                            case rel => exact ⟨_, H', ⟨by have := HJ2.out; have := HJ11.out; have := HK3.out; have := HJ35.out; have := HK5.out; first | omega | exact Nat.le_refl _⟩, ⟨by (with_reducible repeat (first | apply Kd.R_alloc | apply Kd.R_drewN | apply Kd.R_drew)); exact HO_5.out⟩, ⟨by (with_reducible repeat (first | apply Kd.R_alloc | apply Kd.R_drewN | apply Kd.R_drew)); exact HO_7.out⟩, ⟨by (with_reducible repeat (first | apply Kd.R_alloc | apply Kd.R_drewN | apply Kd.R_drew)); exact HO_13.out⟩, ⟨by (with_reducible repeat (first | refine blk_drewN ?_ _ | refine blk_drew ?_ | refine blk_alloc ?_ _)); exact BK279.out⟩, ⟨by repeat (first | (with_reducible first | exact HB.out | apply below_alloc | apply pw_below_drewN | apply below_drew1 | refine below_set ?_ GE279.out) | exact HB.out)⟩⟩
                           ·replace c57 := Bool.eq_false_iff.mpr c57
                            subst c57
                            have H1 : ((laws_abs.f (wrap64 (((rd_T45 t274 x17_5).f0) - x280000_3))).bind fun t306 => ((laws_abs.f (wrap64 (((rd_T45 t274 x17_5).f1) - x280001_3))).bind fun t308 => (if (wrap64 (t306 + t308)) < (wrap64 (t300 + t303)) then (some false) else (laws_FnProbe.j5 k5 l0 t274 t280 t283 x13_3 x14_3 x15_3 (wrap64 (t300 + t303)) x17_5 x280000_3 x280001_3)))) = some r := by rw [if_neg (show ¬ (false = true) by decide)] at H; exact H
                            clear H
                            have H := H1
                            clear H1
                            replace H := Option.bind_eq_some_iff.mp H
                            obtain ⟨t306, A590, H⟩ := H
                            replace H : ((laws_abs.f (wrap64 (((rd_T45 t274 x17_5).f1) - x280001_3))).bind fun t308 => (if (wrap64 (t306 + t308)) < (wrap64 (t300 + t303)) then (some false) else (laws_FnProbe.j5 k5 l0 t274 t280 t283 x13_3 x14_3 x15_3 (wrap64 (t300 + t303)) x17_5 x280000_3 x280001_3))) = some r := H
                            have A59 := Aside0.mk A590
                            clear A590
                            replace H := Option.bind_eq_some_iff.mp H
                            obtain ⟨t308, A600, H⟩ := H
                            replace H : (if (wrap64 (t306 + t308)) < (wrap64 (t300 + t303)) then (some false) else (laws_FnProbe.j5 k5 l0 t274 t280 t283 x13_3 x14_3 x15_3 (wrap64 (t300 + t303)) x17_5 x280000_3 x280001_3)) = some r := H
                            have A60 := Aside0.mk A600
                            clear A600
                            by_cases c61 : (wrap64 (t306 + t308)) < (wrap64 (t300 + t303))
                            ·rw [if_pos c61] at H
                             have c61b0 : decide ((wrap64 (t306 + t308)) < (wrap64 (t300 + t303))) = true := decide_eq_true c61
                             clear c61
                             obtain rfl := Option.some.inj H
                             obtain ⟨Ao62, co62, eo62⟩ := Kd.R_slice HO_13.out
                             subst eo62
                             have p304 : 0 ≤ (x17_5 : Int) := of_decide_eq_true (by first | (with_reducible assumption) | assumption)
                             have q304 : x17_5 < (x13_3.length : Int) := of_decide_eq_true (by first | (with_reducible assumption) | assumption)
                             obtain ⟨ad304, e304, hx304_0⟩ := Kd.at_bool (Kd.R_reads' HO_13.out).2.2 x17_5 p304 q304
                             (try rw [← Nbq56.out] at hx304_0)
                             cases e304
                             replace p304 := eq_true p304
                             replace q304 := eq_true q304
                             have p305 : 0 ≤ (x17_5 : Int) := of_decide_eq_true (by first | (with_reducible assumption) | assumption)
                             have q305 : x17_5 < (t274.length : Int) := of_decide_eq_true (by first | (with_reducible assumption) | assumption)
                             obtain ⟨ad305, e305, hx305_0, hx305_1⟩ := at_T45 (Kd.R_reads' HO_5.out).2.2 x17_5 p305 q305
                             obtain rfl : ad278 = ad305 := (by injection e305)
                             replace p305 := eq_true p305
                             replace q305 := eq_true q305
                             have hcz63_0 : wr.cell? ⟨gb279, 0, none⟩ = some (.int .i64 x280000_3) := (blk_cell BK279.out 0).trans rfl
                             have hcz63_1 : wr.cell? ⟨gb279, 1, none⟩ = some (.int .i64 x280001_3) := (blk_cell BK279.out 1).trans rfl
                             have hfz63_0 := blk_frozen BK279.out 0
                             have hfz63_1 := blk_frozen BK279.out 1
                             go_wp2_with (first | (go_at_call 14; (with_reducible refine (laws_abs.calls (wrap64 (((rd_T45 t274 x17_5).f0) - x280000_3)) t306 _ A59.out).mono ?_); rintro e w' ⟨rfl, ⟨nd, rfl⟩⟩; (try first | exact ⟨rfl, _, World.drewN_drewN _ _ _⟩ | exact ⟨rfl, _, Eq.trans (World.drewN_drewN _ _ _) (congrArg (World.drewN _) (Nat.add_assoc _ _ _))⟩); have p307 : 0 ≤ (x17_5 : Int) := of_decide_eq_true (by first | (with_reducible assumption) | assumption); have q307 : x17_5 < (t274.length : Int) := of_decide_eq_true (by first | (with_reducible assumption) | assumption); obtain ⟨ad307, e307, hx307_0, hx307_1⟩ := at_T45 (Kd.R_reads' HO_5.out).2.2 x17_5 p307 q307; obtain rfl : ad278 = ad307 := (by injection e307); replace p307 := eq_true p307; replace q307 := eq_true q307) | (go_at_call 14; (with_reducible refine (laws_abs.calls (wrap64 (((rd_T45 t274 x17_5).f1) - x280001_3)) t308 _ A60.out).mono ?_); rintro e w' ⟨rfl, ⟨nd, rfl⟩⟩; (try first | exact ⟨rfl, _, World.drewN_drewN _ _ _⟩ | exact ⟨rfl, _, Eq.trans (World.drewN_drewN _ _ _) (congrArg (World.drewN _) (Nat.add_assoc _ _ _))⟩)))
                             repeat (go_quiet (first | (go_at_call 14; (with_reducible refine (laws_abs.calls (wrap64 (((rd_T45 t274 x17_5).f0) - x280000_3)) t306 _ A59.out).mono ?_); rintro e w' ⟨rfl, ⟨nd, rfl⟩⟩; (try first | exact ⟨rfl, _, World.drewN_drewN _ _ _⟩ | exact ⟨rfl, _, Eq.trans (World.drewN_drewN _ _ _) (congrArg (World.drewN _) (Nat.add_assoc _ _ _))⟩); have p307 : 0 ≤ (x17_5 : Int) := of_decide_eq_true (by first | (with_reducible assumption) | assumption); have q307 : x17_5 < (t274.length : Int) := of_decide_eq_true (by first | (with_reducible assumption) | assumption); obtain ⟨ad307, e307, hx307_0, hx307_1⟩ := at_T45 (Kd.R_reads' HO_5.out).2.2 x17_5 p307 q307; obtain rfl : ad278 = ad307 := (by injection e307); replace p307 := eq_true p307; replace q307 := eq_true q307) | (go_at_call 14; (with_reducible refine (laws_abs.calls (wrap64 (((rd_T45 t274 x17_5).f1) - x280001_3)) t308 _ A60.out).mono ?_); rintro e w' ⟨rfl, ⟨nd, rfl⟩⟩; (try first | exact ⟨rfl, _, World.drewN_drewN _ _ _⟩ | exact ⟨rfl, _, Eq.trans (World.drewN_drewN _ _ _) (congrArg (World.drewN _) (Nat.add_assoc _ _ _))⟩))); try go_wp2_with (first | (go_at_call 14; (with_reducible refine (laws_abs.calls (wrap64 (((rd_T45 t274 x17_5).f0) - x280000_3)) t306 _ A59.out).mono ?_); rintro e w' ⟨rfl, ⟨nd, rfl⟩⟩; (try first | exact ⟨rfl, _, World.drewN_drewN _ _ _⟩ | exact ⟨rfl, _, Eq.trans (World.drewN_drewN _ _ _) (congrArg (World.drewN _) (Nat.add_assoc _ _ _))⟩); have p307 : 0 ≤ (x17_5 : Int) := of_decide_eq_true (by first | (with_reducible assumption) | assumption); have q307 : x17_5 < (t274.length : Int) := of_decide_eq_true (by first | (with_reducible assumption) | assumption); obtain ⟨ad307, e307, hx307_0, hx307_1⟩ := at_T45 (Kd.R_reads' HO_5.out).2.2 x17_5 p307 q307; obtain rfl : ad278 = ad307 := (by injection e307); replace p307 := eq_true p307; replace q307 := eq_true q307) | (go_at_call 14; (with_reducible refine (laws_abs.calls (wrap64 (((rd_T45 t274 x17_5).f1) - x280001_3)) t308 _ A60.out).mono ?_); rintro e w' ⟨rfl, ⟨nd, rfl⟩⟩; (try first | exact ⟨rfl, _, World.drewN_drewN _ _ _⟩ | exact ⟨rfl, _, Eq.trans (World.drewN_drewN _ _ _) (congrArg (World.drewN _) (Nat.add_assoc _ _ _))⟩))))
                             go_ret
                             exact ⟨by first | rfl | (simp [errW_none, errW_some] <;> rfl) | (simp [*, errW_none, errW_some] <;> rfl), by repeat (first | (with_reducible first | exact HB.out | apply below_alloc | apply pw_below_drewN | apply below_drew1 | refine below_set ?_ GE279.out) | exact HB.out)⟩
                            ·rw [if_neg c61] at H
                             have c61b0 : decide ((wrap64 (t306 + t308)) < (wrap64 (t300 + t303))) = false := decide_eq_false c61
                             clear c61
                             have H' := Aside0.mk H
                             clear H
                             obtain ⟨Ao64, co64, eo64⟩ := Kd.R_slice HO_13.out
                             subst eo64
                             have p304 : 0 ≤ (x17_5 : Int) := of_decide_eq_true (by first | (with_reducible assumption) | assumption)
                             have q304 : x17_5 < (x13_3.length : Int) := of_decide_eq_true (by first | (with_reducible assumption) | assumption)
                             obtain ⟨ad304, e304, hx304_0⟩ := Kd.at_bool (Kd.R_reads' HO_13.out).2.2 x17_5 p304 q304
                             (try rw [← Nbq56.out] at hx304_0)
                             cases e304
                             replace p304 := eq_true p304
                             replace q304 := eq_true q304
                             have p305 : 0 ≤ (x17_5 : Int) := of_decide_eq_true (by first | (with_reducible assumption) | assumption)
                             have q305 : x17_5 < (t274.length : Int) := of_decide_eq_true (by first | (with_reducible assumption) | assumption)
                             obtain ⟨ad305, e305, hx305_0, hx305_1⟩ := at_T45 (Kd.R_reads' HO_5.out).2.2 x17_5 p305 q305
                             obtain rfl : ad278 = ad305 := (by injection e305)
                             replace p305 := eq_true p305
                             replace q305 := eq_true q305
                             have hcz65_0 : wr.cell? ⟨gb279, 0, none⟩ = some (.int .i64 x280000_3) := (blk_cell BK279.out 0).trans rfl
                             have hcz65_1 : wr.cell? ⟨gb279, 1, none⟩ = some (.int .i64 x280001_3) := (blk_cell BK279.out 1).trans rfl
                             have hfz65_0 := blk_frozen BK279.out 0
                             have hfz65_1 := blk_frozen BK279.out 1
                             go_wp2_with (first | (go_at_call 14; (with_reducible refine (laws_abs.calls (wrap64 (((rd_T45 t274 x17_5).f0) - x280000_3)) t306 _ A59.out).mono ?_); rintro e w' ⟨rfl, ⟨nd, rfl⟩⟩; (try first | exact ⟨rfl, _, World.drewN_drewN _ _ _⟩ | exact ⟨rfl, _, Eq.trans (World.drewN_drewN _ _ _) (congrArg (World.drewN _) (Nat.add_assoc _ _ _))⟩); have p307 : 0 ≤ (x17_5 : Int) := of_decide_eq_true (by first | (with_reducible assumption) | assumption); have q307 : x17_5 < (t274.length : Int) := of_decide_eq_true (by first | (with_reducible assumption) | assumption); obtain ⟨ad307, e307, hx307_0, hx307_1⟩ := at_T45 (Kd.R_reads' HO_5.out).2.2 x17_5 p307 q307; obtain rfl : ad278 = ad307 := (by injection e307); replace p307 := eq_true p307; replace q307 := eq_true q307) | (go_at_call 14; (with_reducible refine (laws_abs.calls (wrap64 (((rd_T45 t274 x17_5).f1) - x280001_3)) t308 _ A60.out).mono ?_); rintro e w' ⟨rfl, ⟨nd, rfl⟩⟩; (try first | exact ⟨rfl, _, World.drewN_drewN _ _ _⟩ | exact ⟨rfl, _, Eq.trans (World.drewN_drewN _ _ _) (congrArg (World.drewN _) (Nat.add_assoc _ _ _))⟩)))
                             repeat (go_quiet (first | (go_at_call 14; (with_reducible refine (laws_abs.calls (wrap64 (((rd_T45 t274 x17_5).f0) - x280000_3)) t306 _ A59.out).mono ?_); rintro e w' ⟨rfl, ⟨nd, rfl⟩⟩; (try first | exact ⟨rfl, _, World.drewN_drewN _ _ _⟩ | exact ⟨rfl, _, Eq.trans (World.drewN_drewN _ _ _) (congrArg (World.drewN _) (Nat.add_assoc _ _ _))⟩); have p307 : 0 ≤ (x17_5 : Int) := of_decide_eq_true (by first | (with_reducible assumption) | assumption); have q307 : x17_5 < (t274.length : Int) := of_decide_eq_true (by first | (with_reducible assumption) | assumption); obtain ⟨ad307, e307, hx307_0, hx307_1⟩ := at_T45 (Kd.R_reads' HO_5.out).2.2 x17_5 p307 q307; obtain rfl : ad278 = ad307 := (by injection e307); replace p307 := eq_true p307; replace q307 := eq_true q307) | (go_at_call 14; (with_reducible refine (laws_abs.calls (wrap64 (((rd_T45 t274 x17_5).f1) - x280001_3)) t308 _ A60.out).mono ?_); rintro e w' ⟨rfl, ⟨nd, rfl⟩⟩; (try first | exact ⟨rfl, _, World.drewN_drewN _ _ _⟩ | exact ⟨rfl, _, Eq.trans (World.drewN_drewN _ _ _) (congrArg (World.drewN _) (Nat.add_assoc _ _ _))⟩))); try go_wp2_with (first | (go_at_call 14; (with_reducible refine (laws_abs.calls (wrap64 (((rd_T45 t274 x17_5).f0) - x280000_3)) t306 _ A59.out).mono ?_); rintro e w' ⟨rfl, ⟨nd, rfl⟩⟩; (try first | exact ⟨rfl, _, World.drewN_drewN _ _ _⟩ | exact ⟨rfl, _, Eq.trans (World.drewN_drewN _ _ _) (congrArg (World.drewN _) (Nat.add_assoc _ _ _))⟩); have p307 : 0 ≤ (x17_5 : Int) := of_decide_eq_true (by first | (with_reducible assumption) | assumption); have q307 : x17_5 < (t274.length : Int) := of_decide_eq_true (by first | (with_reducible assumption) | assumption); obtain ⟨ad307, e307, hx307_0, hx307_1⟩ := at_T45 (Kd.R_reads' HO_5.out).2.2 x17_5 p307 q307; obtain rfl : ad278 = ad307 := (by injection e307); replace p307 := eq_true p307; replace q307 := eq_true q307) | (go_at_call 14; (with_reducible refine (laws_abs.calls (wrap64 (((rd_T45 t274 x17_5).f1) - x280001_3)) t308 _ A60.out).mono ?_); rintro e w' ⟨rfl, ⟨nd, rfl⟩⟩; (try first | exact ⟨rfl, _, World.drewN_drewN _ _ _⟩ | exact ⟨rfl, _, Eq.trans (World.drewN_drewN _ _ _) (congrArg (World.drewN _) (Nat.add_assoc _ _ _))⟩))))
                             go_meet
                             case rel => exact ⟨_, H', ⟨by have := HJ2.out; have := HJ11.out; have := HK3.out; have := HJ35.out; have := HK5.out; first | omega | exact Nat.le_refl _⟩, ⟨by (with_reducible repeat (first | apply Kd.R_alloc | apply Kd.R_drewN | apply Kd.R_drew)); exact HO_5.out⟩, ⟨by (with_reducible repeat (first | apply Kd.R_alloc | apply Kd.R_drewN | apply Kd.R_drew)); exact HO_7.out⟩, ⟨by (with_reducible repeat (first | apply Kd.R_alloc | apply Kd.R_drewN | apply Kd.R_drew)); exact HO_13.out⟩, ⟨by (with_reducible repeat (first | refine blk_drewN ?_ _ | refine blk_drew ?_ | refine blk_alloc ?_ _)); exact BK279.out⟩, ⟨by repeat (first | (with_reducible first | exact HB.out | apply below_alloc | apply pw_below_drewN | apply below_drew1 | refine below_set ?_ GE279.out) | exact HB.out)⟩⟩
                          ·rw [if_neg c55] at H
                           exact absurd H (by simp)
                         ·rw [if_neg c54] at H
                          exact absurd H (by simp)
                        case rest => as_aux_lemma =>
                         clear HC53
                         try clear c1
                         try clear c2
                         try clear p2
                         try clear q2
                         try clear hx2
                         try clear c3
                         try clear p3
                         try clear q3
                         try clear hx3
                         try clear c4
                         try clear c4b0
                         try clear c4b1
                         try clear c5
                         try clear q5
                         try clear c6
                         try clear p6
                         try clear c8
                         try clear c8b0
                         try clear c9
                         try clear c9b0
                         try clear c20
                         try clear c20b0
                         try clear c20b1
                         try clear c22
                         try clear c23
                         try clear c23b0
                         try clear c23b1
                         try clear p27
                         try clear q27
                         try clear hx27
                         try clear p29
                         try clear q29
                         try clear hx29
                         try clear c30
                         try clear p30
                         try clear q30
                         try clear hx30
                         try clear c31
                         try clear c31b0
                         try clear c31b1
                         try clear c32
                         try clear c32b0
                         try clear c32b1
                         try clear c35
                         try clear c35b0
                         try clear c38
                         try clear c38b0
                         try clear c39
                         try clear c39b0
                         try clear c40
                         try clear c40b0
                         try clear c41
                         try clear c41b0
                         try clear c42
                         try clear c42b0
                         try clear c44
                         try clear c45
                         try clear c45b0
                         try clear c46
                         try clear c46b0
                         try clear c47
                         try clear c47b0
                         try clear c48
                         try clear c48b0
                         try clear c52
                         try clear c52b0
                         try clear c54
                         try clear c54b0
                         try clear c55
                         try clear c55b0
                         try clear q56
                         try clear c57
                         try clear c61
                         try clear c61b0
                         try clear p64
                         try clear hcz16_0
                         try clear hcz16_1
                         try clear hcz18_0
                         try clear hcz18_1
                         try clear hcz51_0
                         try clear hcz51_1
                         try clear hcz63_0
                         try clear hcz63_1
                         try clear hcz65_0
                         try clear hcz65_1
                         try clear hfz16_0
                         try clear hfz16_1
                         try clear hfz18_0
                         try clear hfz18_1
                         try clear hfz51_0
                         try clear hfz51_1
                         try clear hfz63_0
                         try clear hfz63_1
                         try clear hfz65_0
                         try clear hfz65_1
                         try clear hx278_0
                         try clear hx278_1
                         try clear hx294_0
                         try clear hx295_0
                         try clear hx296_0
                         try clear hx297_0
                         try clear hx298_0
                         try clear hx299_0
                         try clear hx299_1
                         try clear hx301_0
                         try clear hx302_0
                         try clear hx302_1
                         try clear hx304_0
                         try clear hx305_0
                         try clear hx305_1
                         try clear hx307_0
                         try clear hx307_1
                         try clear p2
                         try clear p27
                         try clear p278
                         try clear p29
                         try clear p294
                         try clear p295
                         try clear p296
                         try clear p297
                         try clear p298
                         try clear p299
                         try clear p3
                         try clear p30
                         try clear p301
                         try clear p302
                         try clear p304
                         try clear p305
                         try clear p307
                         try clear p6
                         try clear q2
                         try clear q27
                         try clear q278
                         try clear q29
                         try clear q294
                         try clear q295
                         try clear q296
                         try clear q297
                         try clear q298
                         try clear q299
                         try clear q3
                         try clear q30
                         try clear q301
                         try clear q302
                         try clear q304
                         try clear q305
                         try clear q307
                         obtain ⟨kq, HA, HJ52, HO_5, HO_7, HO_13, BK279, HB⟩ := hcut
                         cases kq with
                         | zero => exact absurd HA.out (by simp [laws_FnProbe.j5])
                         | succ kj52 =>
                          have H := HA.out
                          clear HA
                          simp only [laws_FnProbe.j5] at H
                          have H' := Aside0.mk H
                          clear H
                          go_wp2
                          repeat (go_quiet (fail); try go_wp2)
                          go_roundg kj52
                          case measure => have := HJ2.out; have := HJ11.out; have := HK3.out; have := HJ35.out; have := HK5.out; have := HJ52.out; omega
                          case rel => exact ⟨(wrap64 (x17_5 + 1)), (by first | rfl | (simp; done) | (simp [*]; done)), H', ⟨by have := HJ2.out; have := HJ11.out; have := HK3.out; have := HJ35.out; have := HK5.out; have := HJ52.out; omega⟩, ⟨by (with_reducible repeat (first | apply Kd.R_alloc | apply Kd.R_drewN | apply Kd.R_drew)); exact HO_5.out⟩, ⟨by (with_reducible repeat (first | apply Kd.R_alloc | apply Kd.R_drewN | apply Kd.R_drew)); exact HO_7.out⟩, ⟨by (with_reducible repeat (first | apply Kd.R_alloc | apply Kd.R_drewN | apply Kd.R_drew)); exact HO_13.out⟩, ⟨by (with_reducible repeat (first | refine blk_drewN ?_ _ | refine blk_drew ?_ | refine blk_alloc ?_ _)); exact BK279.out⟩, ⟨by repeat (first | (with_reducible first | exact HB.out | apply below_alloc | apply pw_below_drewN | apply below_drew1 | refine below_set ?_ GE279.out) | exact HB.out)⟩⟩
                       ·rw [if_neg c52] at H
                        have c52b0 : decide (x17_5 < (t274.length : Int)) = false := decide_eq_false c52
                        clear c52
                        by_cases c66 : 0 ≤ x15_3
                        ·rw [if_pos c66] at H
                         have c66b0 : decide (0 ≤ x15_3) = true := decide_eq_true c66
                         clear c66
                         by_cases c67 : x15_3 < (t280.length : Int)
                         ·rw [if_pos c67] at H
                          have c67b0 : decide (x15_3 < (t280.length : Int)) = true := decide_eq_true c67
                          clear c67
                          by_cases c68 : 0 ≤ (rd t280 x15_3)
                          ·rw [if_pos c68] at H
                           have c68b0 : decide (0 ≤ (rd t280 x15_3)) = true := decide_eq_true c68
                           clear c68
                           by_cases c69 : (rd t280 x15_3) < (x13_3.length : Int)
                           ·rw [if_pos c69] at H
                            have c69b0 : decide ((rd t280 x15_3) < (x13_3.length : Int)) = true := decide_eq_true c69
                            clear c69
                            obtain ⟨y310, hy310⟩ : ∃ y_ : List Bool, y_ = (x13_3.set ((rd t280 x15_3) : Int).toNat true) := ⟨_, rfl⟩
                            replace H : (if (rd t280 x15_3) < (t274.length : Int) then (laws_FnProbe.l0 k5 l0 t274 t280 t283 y310 (wrap64 (x14_3 + (wrap64 (t300 + t303)))) (wrap64 (x15_3 + 1)) ((rd_T45 t274 (rd t280 x15_3)).f0) ((rd_T45 t274 (rd t280 x15_3)).f1)) else (none)) = some r := by first | (rw [hy310]; with_reducible exact H) | (have H2_ := (Option.bind_some _ _).symm.trans H; rw [hy310]; with_reducible exact H2_) | (have H2_ := (Option.bind_some _ _).symm.trans H; with_reducible exact H2_) | with_reducible exact H | (rw [hy310]; exact H) | exact H
                            have Ny310 := Aside0.mk hy310
                            clear hy310
                            by_cases c71 : (rd t280 x15_3) < (t274.length : Int)
                            ·rw [if_pos c71] at H
                             have c71b0 : decide ((rd t280 x15_3) < (t274.length : Int)) = true := decide_eq_true c71
                             clear c71
                             have H' := Aside0.mk H
                             clear H
                             have p309 : 0 ≤ (x15_3 : Int) := of_decide_eq_true (by first | (with_reducible assumption) | assumption)
                             have q309 : x15_3 < (t280.length : Int) := of_decide_eq_true (by first | (with_reducible assumption) | assumption)
                             obtain ⟨ad309, e309, hx309_0⟩ := Kd.at_int (Kd.R_reads' HO_7.out).2.2 x15_3 p309 q309
                             obtain rfl : ad298 = ad309 := (by injection e309)
                             replace p309 := eq_true p309
                             replace q309 := eq_true q309
                             have p70 : 0 ≤ ((rd t280 x15_3) : Int) := of_decide_eq_true (by first | (with_reducible assumption) | assumption)
                             have q70 : ((rd t280 x15_3) : Int) < ((x13_3.length : Int) : Int) := of_decide_eq_true (by first | (with_reducible assumption) | assumption)
                             obtain ⟨go70, co70, eo70, gb70, gl70, cl70, HG70⟩ := Kd.R_form HO_13.out (by omega)
                             (first | cases eo70 | (injection eo70 with ea_ en_ ec_; (first | subst ea_ | (injection ea_ with ea_; subst ea_)); subst ec_; clear en_))
                             have GB70 := Aside0.mk gb70
                             have GG70 := Aside0.mk HG70
                             clear gb70 gl70 HG70
                             obtain ⟨hx70_0, hf70_0⟩ := Kd.R_celln false HO_13.out ((rd t280 x15_3) : Int) p70 q70
                             replace p70 := eq_true p70
                             replace q70 := eq_true q70
                             have HP72 := Kd.R_putg HO_13.out ((rd t280 x15_3) : Int) true
                             go_wp2_with (first | ((with_reducible refine gate_store (t := 4) (p := 175) rfl ?_); (try (rw [drewN_self wr]; generalize hq_ : World.drewN wr _ = wr; have n0_ := Aside0.mk (Kd.R_at hq_ HO_5.out); have n1_ := Aside0.mk (Kd.R_at hq_ HO_7.out); have n2_ := Aside0.mk (Kd.R_at hq_ HO_13.out); have n3_ := Aside0.mk (blk_at hq_ BK279.out); have n4_ := Aside0.mk (below_at hq_ HB.out); clear hq_ HO_5 HO_7 HO_13 BK279 HB; have HO_5 := n0_; have HO_7 := n1_; have HO_13 := n2_; have BK279 := n3_; have HB := n4_; clear n0_ n1_ n2_ n3_ n4_; (try (have HP72 := Kd.R_putg HO_13.out ((rd t280 x15_3) : Int) true)))); refine store_event (t := 4) (p := 175) (v := ?vo_w73) (w1 := (wr.setCell ⟨go70, ((rd t280 x15_3) : Int).toNat, none⟩ (.bool true))) ?hg ?ho ?hn ?hr ?_; (case ho => rfl); (case hg => rfl); (case hn => rfl); (case hr => first | (go_simp; done) | (go_simp; rfl)); intro w73 hw; have hg : wr.grownBy w73 (some go70) := (by rw [hw]; exact HP72.2); have hp_ : Kd.R Kd.bool 4 w73 w.heap.size (fun _ => True) (.slice (some ⟨go70, 0, none⟩) x13_3.length co70) y310 := (by rw [hw, Ny310.out]; exact HP72.1); clear HP72; have n0_ := Aside0.mk (Kd.R_over' (v := (.slice (some ⟨go70, 0, none⟩) x13_3.length co70)) (by (with_reducible repeat (first | apply Kd.R_alloc | apply Kd.R_drewN | apply Kd.R_drew)); exact HO_5.out) (Kd.R_typed HO_13.out) (by decide) hg); have n1_ := Aside0.mk (Kd.R_over' (v := (.slice (some ⟨go70, 0, none⟩) x13_3.length co70)) (by (with_reducible repeat (first | apply Kd.R_alloc | apply Kd.R_drewN | apply Kd.R_drew)); exact HO_7.out) (Kd.R_typed HO_13.out) (by decide) hg); have n2_ := Aside0.mk (hp_); have n3_ := Aside0.mk (blk_grown (g := gb279) (o := .cells #[.int .i64 x280000_3, .int .i64 x280001_3] 45 (0, 0)) (by (with_reducible repeat (first | refine blk_drewN ?_ _ | refine blk_drew ?_ | refine blk_alloc ?_ _)); exact BK279.out) hg (Kd.R_ne HO_13.out BK279.out (by decide))); have n4_ := Aside0.mk ((by rw [hw]; exact below_set (HB.out) GB70.out : Below w.heap.size w w73)); clear HO_5; clear HO_7; clear HO_13; clear BK279; clear HB; have HO_5 := n0_; have HO_7 := n1_; have HO_13 := n2_; have BK279 := n3_; have HB := n4_; clear n0_ n1_ n2_ n3_ n4_; clear hg hw hp_; have p311 : 0 ≤ (x15_3 : Int) := of_decide_eq_true (by first | (with_reducible assumption) | assumption); have q311 : x15_3 < (t280.length : Int) := of_decide_eq_true (by first | (with_reducible assumption) | assumption); obtain ⟨ad311, e311, hx311_0⟩ := Kd.at_int (Kd.R_reads' HO_7.out).2.2 x15_3 p311 q311; obtain rfl : ad298 = ad311 := (by injection e311); replace p311 := eq_true p311; replace q311 := eq_true q311; have p312 : 0 ≤ ((rd t280 x15_3) : Int) := of_decide_eq_true (by first | (with_reducible assumption) | assumption); have q312 : (rd t280 x15_3) < (t274.length : Int) := of_decide_eq_true (by first | (with_reducible assumption) | assumption); obtain ⟨ad312, e312, hx312_0, hx312_1⟩ := at_T45 (Kd.R_reads' HO_5.out).2.2 (rd t280 x15_3) p312 q312; obtain rfl : ad278 = ad312 := (by injection e312); replace p312 := eq_true p312; replace q312 := eq_true q312; have hcz74_0 : w73.cell? ⟨gb279, 0, none⟩ = some (.int .i64 x280000_3) := (blk_cell BK279.out 0).trans rfl; have hcz74_1 : w73.cell? ⟨gb279, 1, none⟩ = some (.int .i64 x280001_3) := (blk_cell BK279.out 1).trans rfl; have hfz74_0 := blk_frozen BK279.out 0; have hfz74_1 := blk_frozen BK279.out 1))
                             repeat (go_quiet (first | ((with_reducible refine gate_store (t := 4) (p := 175) rfl ?_); (try (rw [drewN_self wr]; generalize hq_ : World.drewN wr _ = wr; have n0_ := Aside0.mk (Kd.R_at hq_ HO_5.out); have n1_ := Aside0.mk (Kd.R_at hq_ HO_7.out); have n2_ := Aside0.mk (Kd.R_at hq_ HO_13.out); have n3_ := Aside0.mk (blk_at hq_ BK279.out); have n4_ := Aside0.mk (below_at hq_ HB.out); clear hq_ HO_5 HO_7 HO_13 BK279 HB; have HO_5 := n0_; have HO_7 := n1_; have HO_13 := n2_; have BK279 := n3_; have HB := n4_; clear n0_ n1_ n2_ n3_ n4_; (try (have HP72 := Kd.R_putg HO_13.out ((rd t280 x15_3) : Int) true)))); refine store_event (t := 4) (p := 175) (v := ?vo_w73) (w1 := (wr.setCell ⟨go70, ((rd t280 x15_3) : Int).toNat, none⟩ (.bool true))) ?hg ?ho ?hn ?hr ?_; (case ho => rfl); (case hg => rfl); (case hn => rfl); (case hr => first | (go_simp; done) | (go_simp; rfl)); intro w73 hw; have hg : wr.grownBy w73 (some go70) := (by rw [hw]; exact HP72.2); have hp_ : Kd.R Kd.bool 4 w73 w.heap.size (fun _ => True) (.slice (some ⟨go70, 0, none⟩) x13_3.length co70) y310 := (by rw [hw, Ny310.out]; exact HP72.1); clear HP72; have n0_ := Aside0.mk (Kd.R_over' (v := (.slice (some ⟨go70, 0, none⟩) x13_3.length co70)) (by (with_reducible repeat (first | apply Kd.R_alloc | apply Kd.R_drewN | apply Kd.R_drew)); exact HO_5.out) (Kd.R_typed HO_13.out) (by decide) hg); have n1_ := Aside0.mk (Kd.R_over' (v := (.slice (some ⟨go70, 0, none⟩) x13_3.length co70)) (by (with_reducible repeat (first | apply Kd.R_alloc | apply Kd.R_drewN | apply Kd.R_drew)); exact HO_7.out) (Kd.R_typed HO_13.out) (by decide) hg); have n2_ := Aside0.mk (hp_); have n3_ := Aside0.mk (blk_grown (g := gb279) (o := .cells #[.int .i64 x280000_3, .int .i64 x280001_3] 45 (0, 0)) (by (with_reducible repeat (first | refine blk_drewN ?_ _ | refine blk_drew ?_ | refine blk_alloc ?_ _)); exact BK279.out) hg (Kd.R_ne HO_13.out BK279.out (by decide))); have n4_ := Aside0.mk ((by rw [hw]; exact below_set (HB.out) GB70.out : Below w.heap.size w w73)); clear HO_5; clear HO_7; clear HO_13; clear BK279; clear HB; have HO_5 := n0_; have HO_7 := n1_; have HO_13 := n2_; have BK279 := n3_; have HB := n4_; clear n0_ n1_ n2_ n3_ n4_; clear hg hw hp_; have p311 : 0 ≤ (x15_3 : Int) := of_decide_eq_true (by first | (with_reducible assumption) | assumption); have q311 : x15_3 < (t280.length : Int) := of_decide_eq_true (by first | (with_reducible assumption) | assumption); obtain ⟨ad311, e311, hx311_0⟩ := Kd.at_int (Kd.R_reads' HO_7.out).2.2 x15_3 p311 q311; obtain rfl : ad298 = ad311 := (by injection e311); replace p311 := eq_true p311; replace q311 := eq_true q311; have p312 : 0 ≤ ((rd t280 x15_3) : Int) := of_decide_eq_true (by first | (with_reducible assumption) | assumption); have q312 : (rd t280 x15_3) < (t274.length : Int) := of_decide_eq_true (by first | (with_reducible assumption) | assumption); obtain ⟨ad312, e312, hx312_0, hx312_1⟩ := at_T45 (Kd.R_reads' HO_5.out).2.2 (rd t280 x15_3) p312 q312; obtain rfl : ad278 = ad312 := (by injection e312); replace p312 := eq_true p312; replace q312 := eq_true q312; have hcz74_0 : w73.cell? ⟨gb279, 0, none⟩ = some (.int .i64 x280000_3) := (blk_cell BK279.out 0).trans rfl; have hcz74_1 : w73.cell? ⟨gb279, 1, none⟩ = some (.int .i64 x280001_3) := (blk_cell BK279.out 1).trans rfl; have hfz74_0 := blk_frozen BK279.out 0; have hfz74_1 := blk_frozen BK279.out 1)); try go_wp2_with (first | ((with_reducible refine gate_store (t := 4) (p := 175) rfl ?_); (try (rw [drewN_self wr]; generalize hq_ : World.drewN wr _ = wr; have n0_ := Aside0.mk (Kd.R_at hq_ HO_5.out); have n1_ := Aside0.mk (Kd.R_at hq_ HO_7.out); have n2_ := Aside0.mk (Kd.R_at hq_ HO_13.out); have n3_ := Aside0.mk (blk_at hq_ BK279.out); have n4_ := Aside0.mk (below_at hq_ HB.out); clear hq_ HO_5 HO_7 HO_13 BK279 HB; have HO_5 := n0_; have HO_7 := n1_; have HO_13 := n2_; have BK279 := n3_; have HB := n4_; clear n0_ n1_ n2_ n3_ n4_; (try (have HP72 := Kd.R_putg HO_13.out ((rd t280 x15_3) : Int) true)))); refine store_event (t := 4) (p := 175) (v := ?vo_w73) (w1 := (wr.setCell ⟨go70, ((rd t280 x15_3) : Int).toNat, none⟩ (.bool true))) ?hg ?ho ?hn ?hr ?_; (case ho => rfl); (case hg => rfl); (case hn => rfl); (case hr => first | (go_simp; done) | (go_simp; rfl)); intro w73 hw; have hg : wr.grownBy w73 (some go70) := (by rw [hw]; exact HP72.2); have hp_ : Kd.R Kd.bool 4 w73 w.heap.size (fun _ => True) (.slice (some ⟨go70, 0, none⟩) x13_3.length co70) y310 := (by rw [hw, Ny310.out]; exact HP72.1); clear HP72; have n0_ := Aside0.mk (Kd.R_over' (v := (.slice (some ⟨go70, 0, none⟩) x13_3.length co70)) (by (with_reducible repeat (first | apply Kd.R_alloc | apply Kd.R_drewN | apply Kd.R_drew)); exact HO_5.out) (Kd.R_typed HO_13.out) (by decide) hg); have n1_ := Aside0.mk (Kd.R_over' (v := (.slice (some ⟨go70, 0, none⟩) x13_3.length co70)) (by (with_reducible repeat (first | apply Kd.R_alloc | apply Kd.R_drewN | apply Kd.R_drew)); exact HO_7.out) (Kd.R_typed HO_13.out) (by decide) hg); have n2_ := Aside0.mk (hp_); have n3_ := Aside0.mk (blk_grown (g := gb279) (o := .cells #[.int .i64 x280000_3, .int .i64 x280001_3] 45 (0, 0)) (by (with_reducible repeat (first | refine blk_drewN ?_ _ | refine blk_drew ?_ | refine blk_alloc ?_ _)); exact BK279.out) hg (Kd.R_ne HO_13.out BK279.out (by decide))); have n4_ := Aside0.mk ((by rw [hw]; exact below_set (HB.out) GB70.out : Below w.heap.size w w73)); clear HO_5; clear HO_7; clear HO_13; clear BK279; clear HB; have HO_5 := n0_; have HO_7 := n1_; have HO_13 := n2_; have BK279 := n3_; have HB := n4_; clear n0_ n1_ n2_ n3_ n4_; clear hg hw hp_; have p311 : 0 ≤ (x15_3 : Int) := of_decide_eq_true (by first | (with_reducible assumption) | assumption); have q311 : x15_3 < (t280.length : Int) := of_decide_eq_true (by first | (with_reducible assumption) | assumption); obtain ⟨ad311, e311, hx311_0⟩ := Kd.at_int (Kd.R_reads' HO_7.out).2.2 x15_3 p311 q311; obtain rfl : ad298 = ad311 := (by injection e311); replace p311 := eq_true p311; replace q311 := eq_true q311; have p312 : 0 ≤ ((rd t280 x15_3) : Int) := of_decide_eq_true (by first | (with_reducible assumption) | assumption); have q312 : (rd t280 x15_3) < (t274.length : Int) := of_decide_eq_true (by first | (with_reducible assumption) | assumption); obtain ⟨ad312, e312, hx312_0, hx312_1⟩ := at_T45 (Kd.R_reads' HO_5.out).2.2 (rd t280 x15_3) p312 q312; obtain rfl : ad278 = ad312 := (by injection e312); replace p312 := eq_true p312; replace q312 := eq_true q312; have hcz74_0 : w73.cell? ⟨gb279, 0, none⟩ = some (.int .i64 x280000_3) := (blk_cell BK279.out 0).trans rfl; have hcz74_1 : w73.cell? ⟨gb279, 1, none⟩ = some (.int .i64 x280001_3) := (blk_cell BK279.out 1).trans rfl; have hfz74_0 := blk_frozen BK279.out 0; have hfz74_1 := blk_frozen BK279.out 1)))
                             go_roundg k5
                             case measure => have := HJ2.out; have := HJ11.out; have := HK3.out; have := HJ35.out; have := HK5.out; omega
                             case rel => exact ⟨(y310), (wrap64 (x14_3 + (wrap64 (t300 + t303)))), (wrap64 (x15_3 + 1)), ((rd_T45 t274 (rd t280 x15_3)).f0), ((rd_T45 t274 (rd t280 x15_3)).f1), (by first | rfl | (simp; done) | (simp [*]; done)), (by first | rfl | (simp; done) | (simp [*]; done)), H', ⟨by have := HJ2.out; have := HJ11.out; have := HK3.out; have := HJ35.out; have := HK5.out; omega⟩, ⟨by (with_reducible repeat (first | apply Kd.R_alloc | apply Kd.R_drewN | apply Kd.R_drew)); exact Kd.R_mono (Kd.R_far (p := ⟨gb279, 1, none⟩) (Kd.R_far (p := ⟨gb279, 0, none⟩) (Kd.R_mono HO_5.out (fun k_ hk => (⟨hk, hk⟩ : _ ∧ k_ ≠ gb279))) (fun _ hk => hk.2) (.int .i64 ((rd_T45 t274 (rd t280 x15_3)).f0))) (fun _ hk => hk.2) (.int .i64 ((rd_T45 t274 (rd t280 x15_3)).f1))) (fun _ hk => hk.1)⟩, ⟨by (with_reducible repeat (first | apply Kd.R_alloc | apply Kd.R_drewN | apply Kd.R_drew)); exact Kd.R_mono (Kd.R_far (p := ⟨gb279, 1, none⟩) (Kd.R_far (p := ⟨gb279, 0, none⟩) (Kd.R_types HO_7.out BK279.out (by decide)) (fun _ hk => hk.2) (.int .i64 ((rd_T45 t274 (rd t280 x15_3)).f0))) (fun _ hk => hk.2) (.int .i64 ((rd_T45 t274 (rd t280 x15_3)).f1))) (fun _ hk => trivial)⟩, ⟨by (with_reducible repeat (first | apply Kd.R_alloc | apply Kd.R_drewN | apply Kd.R_drew)); exact Kd.R_mono (Kd.R_far (p := ⟨gb279, 1, none⟩) (Kd.R_far (p := ⟨gb279, 0, none⟩) (Kd.R_types HO_13.out BK279.out (by decide)) (fun _ hk => hk.2) (.int .i64 ((rd_T45 t274 (rd t280 x15_3)).f0))) (fun _ hk => hk.2) (.int .i64 ((rd_T45 t274 (rd t280 x15_3)).f1))) (fun _ hk => trivial)⟩, ⟨by (with_reducible repeat (first | refine blk_drewN ?_ _ | refine blk_drew ?_ | refine blk_alloc ?_ _)); refine blk_put (cs := #[.int .i64 ((rd_T45 t274 (rd t280 x15_3)).f0), .int .i64 x280001_3]) ?_ 1 _ rfl; (with_reducible repeat (first | refine blk_drewN ?_ _ | refine blk_drew ?_ | refine blk_alloc ?_ _)); refine blk_put (cs := #[.int .i64 x280000_3, .int .i64 x280001_3]) ?_ 0 _ rfl; (with_reducible repeat (first | refine blk_drewN ?_ _ | refine blk_drew ?_ | refine blk_alloc ?_ _)); exact BK279.out⟩, ⟨by repeat (first | (with_reducible first | exact HB.out | apply below_alloc | apply pw_below_drewN | apply below_drew1 | refine below_set ?_ GE279.out) | exact HB.out)⟩⟩
                            ·rw [if_neg c71] at H
                             exact absurd H (by simp)
                           ·rw [if_neg c69] at H
                            exact absurd H (by simp)
                          ·rw [if_neg c68] at H
                           exact absurd H (by simp)
                         ·rw [if_neg c67] at H
                          exact absurd H (by simp)
                        ·rw [if_neg c66] at H
                         exact absurd H (by simp)
                    ·rw [if_neg c48] at H
                     exact absurd H (by simp)
                   ·rw [if_neg c47] at H
                    exact absurd H (by simp)
                  ·rw [if_neg c46] at H
                   exact absurd H (by simp)
                 ·rw [if_neg c45] at H
                  exact absurd H (by simp)
             ·rw [if_neg c35] at H
              have c35b0 : decide (x15_3 < (t280.length : Int)) = false := decide_eq_false c35
              clear c35
              by_cases c75 : x14_3 = t283
              ·rw [if_pos c75] at H
               have c75b0 : (x14_3 == t283) = true := beq_iff_eq.mpr c75
               have c75b1 : (x14_3 != t283) = false := bne_eq_false_iff_eq.mpr c75
               clear c75
               replace H := Option.bind_eq_some_iff.mp H
               obtain ⟨⟨t313, t314, t315, t316⟩, A760, H⟩ := H
               replace H : ((impl_Judge.f t313 t314 t315 t316).bind fun bt317 => ((spec_Judge.f k3 t313 t314 t315 t316).bind fun bt319 => (if bt317.2 = bt319.2 then (if bt317.2 = 0 then (if (wrap64 (t313 + t316)) ≥ t314 then (if (wrap64 (t313 - t316)) ≥ t314 then (if ((bt317.1 == 1) == (decide ((wrap64 (t313 + t316)) ≤ t315))) = true then (if ((bt317.1 == 2) == (!(decide ((wrap64 (t313 - t316)) ≤ t315)))) = true then (if bt317.1 ≥ 1 then (laws_FnProbe.j6 k3 (decide (bt317.1 ≤ 3))) else (laws_FnProbe.j6 k3 false)) else (laws_FnProbe.j6 k3 false)) else (laws_FnProbe.j6 k3 false)) else (if ((bt317.1 == 1) == false) = true then (if ((bt317.1 == 2) == (!(decide ((wrap64 (t313 - t316)) ≤ t315)))) = true then (if bt317.1 ≥ 1 then (laws_FnProbe.j7 k3 (decide (bt317.1 ≤ 3))) else (laws_FnProbe.j7 k3 false)) else (laws_FnProbe.j7 k3 false)) else (laws_FnProbe.j7 k3 false))) else (if (wrap64 (t313 - t316)) ≥ t314 then (if ((bt317.1 == 1) == (decide ((wrap64 (t313 + t316)) ≤ t315))) = true then (if ((bt317.1 == 2) == (!false)) = true then (if bt317.1 ≥ 1 then (laws_FnProbe.j8 k3 (decide (bt317.1 ≤ 3))) else (laws_FnProbe.j8 k3 false)) else (laws_FnProbe.j8 k3 false)) else (laws_FnProbe.j8 k3 false)) else (if ((bt317.1 == 1) == false) = true then (if ((bt317.1 == 2) == (!false)) = true then (if bt317.1 ≥ 1 then (laws_FnProbe.j9 k3 (decide (bt317.1 ≤ 3))) else (laws_FnProbe.j9 k3 false)) else (laws_FnProbe.j9 k3 false)) else (laws_FnProbe.j9 k3 false)))) else (some (bt317.1 == 0))) else (some false)))) = some r := H
               have A76 := Aside0.mk A760
               clear A760
               replace H := Option.bind_eq_some_iff.mp H
               obtain ⟨⟨t317, t318⟩, A770, H⟩ := H
               replace H : ((spec_Judge.f k3 t313 t314 t315 t316).bind fun bt319 => (if t318 = bt319.2 then (if t318 = 0 then (if (wrap64 (t313 + t316)) ≥ t314 then (if (wrap64 (t313 - t316)) ≥ t314 then (if ((t317 == 1) == (decide ((wrap64 (t313 + t316)) ≤ t315))) = true then (if ((t317 == 2) == (!(decide ((wrap64 (t313 - t316)) ≤ t315)))) = true then (if t317 ≥ 1 then (laws_FnProbe.j6 k3 (decide (t317 ≤ 3))) else (laws_FnProbe.j6 k3 false)) else (laws_FnProbe.j6 k3 false)) else (laws_FnProbe.j6 k3 false)) else (if ((t317 == 1) == false) = true then (if ((t317 == 2) == (!(decide ((wrap64 (t313 - t316)) ≤ t315)))) = true then (if t317 ≥ 1 then (laws_FnProbe.j7 k3 (decide (t317 ≤ 3))) else (laws_FnProbe.j7 k3 false)) else (laws_FnProbe.j7 k3 false)) else (laws_FnProbe.j7 k3 false))) else (if (wrap64 (t313 - t316)) ≥ t314 then (if ((t317 == 1) == (decide ((wrap64 (t313 + t316)) ≤ t315))) = true then (if ((t317 == 2) == (!false)) = true then (if t317 ≥ 1 then (laws_FnProbe.j8 k3 (decide (t317 ≤ 3))) else (laws_FnProbe.j8 k3 false)) else (laws_FnProbe.j8 k3 false)) else (laws_FnProbe.j8 k3 false)) else (if ((t317 == 1) == false) = true then (if ((t317 == 2) == (!false)) = true then (if t317 ≥ 1 then (laws_FnProbe.j9 k3 (decide (t317 ≤ 3))) else (laws_FnProbe.j9 k3 false)) else (laws_FnProbe.j9 k3 false)) else (laws_FnProbe.j9 k3 false)))) else (some (t317 == 0))) else (some false))) = some r := H
               have A77 := Aside0.mk A770
               clear A770
               replace H := Option.bind_eq_some_iff.mp H
               obtain ⟨⟨t319, t320⟩, A780, H⟩ := H
               replace H : (if t318 = t320 then (if t318 = 0 then (if (wrap64 (t313 + t316)) ≥ t314 then (if (wrap64 (t313 - t316)) ≥ t314 then (if ((t317 == 1) == (decide ((wrap64 (t313 + t316)) ≤ t315))) = true then (if ((t317 == 2) == (!(decide ((wrap64 (t313 - t316)) ≤ t315)))) = true then (if t317 ≥ 1 then (laws_FnProbe.j6 k3 (decide (t317 ≤ 3))) else (laws_FnProbe.j6 k3 false)) else (laws_FnProbe.j6 k3 false)) else (laws_FnProbe.j6 k3 false)) else (if ((t317 == 1) == false) = true then (if ((t317 == 2) == (!(decide ((wrap64 (t313 - t316)) ≤ t315)))) = true then (if t317 ≥ 1 then (laws_FnProbe.j7 k3 (decide (t317 ≤ 3))) else (laws_FnProbe.j7 k3 false)) else (laws_FnProbe.j7 k3 false)) else (laws_FnProbe.j7 k3 false))) else (if (wrap64 (t313 - t316)) ≥ t314 then (if ((t317 == 1) == (decide ((wrap64 (t313 + t316)) ≤ t315))) = true then (if ((t317 == 2) == (!false)) = true then (if t317 ≥ 1 then (laws_FnProbe.j8 k3 (decide (t317 ≤ 3))) else (laws_FnProbe.j8 k3 false)) else (laws_FnProbe.j8 k3 false)) else (laws_FnProbe.j8 k3 false)) else (if ((t317 == 1) == false) = true then (if ((t317 == 2) == (!false)) = true then (if t317 ≥ 1 then (laws_FnProbe.j9 k3 (decide (t317 ≤ 3))) else (laws_FnProbe.j9 k3 false)) else (laws_FnProbe.j9 k3 false)) else (laws_FnProbe.j9 k3 false)))) else (some (t317 == 0))) else (some false)) = some r := H
               have A78 := Aside0.mk A780
               clear A780
               by_cases c79 : t318 = t320
               ·rw [if_pos c79] at H
                have c79b0 : (t318 == t320) = true := beq_iff_eq.mpr c79
                have c79b1 : (t318 != t320) = false := bne_eq_false_iff_eq.mpr c79
                clear c79
                by_cases c80 : t318 = 0
                ·rw [if_pos c80] at H
                 have c80b0 : (t318 == 0) = true := beq_iff_eq.mpr c80
                 have c80b1 : (t318 != 0) = false := bne_eq_false_iff_eq.mpr c80
                 clear c80
                 by_cases c81 : (wrap64 (t313 + t316)) ≥ t314
                 ·rw [if_pos c81] at H
                  have c81b0 : decide (t314 ≤ (wrap64 (t313 + t316))) = true := decide_eq_true c81
                  clear c81
                  by_cases c82 : (wrap64 (t313 - t316)) ≥ t314
                  ·rw [if_pos c82] at H
                   have c82b0 : decide (t314 ≤ (wrap64 (t313 - t316))) = true := decide_eq_true c82
                   clear c82
                   have HC83 := Aside0.mk H
                   clear H
                   obtain ⟨Ao84, co84, eo84⟩ := Kd.R_slice HO_7.out
                   subst eo84
                   go_upto_region 36 with (first | (go_at_call 29; (with_reducible refine (spec_DrawJudge.calls _ _ l0 t313 t314 t315 t316 _ ?side1 ?side2 A76.out).mono ?_); (case side1 => repeat (first | exact (Kd.C_below HR0.out HB.out) | (with_reducible refine Kd.C_alloc ?_ _) | (with_reducible refine Kd.C_drewN ?_ _) | (with_reducible refine Kd.C_drew ?_))); (case side2 => exact HC0.out); rintro e w85 ⟨rfl, hb⟩; have n0_ := Aside0.mk (Kd.R_below (by (with_reducible repeat (first | apply Kd.R_alloc | apply Kd.R_drewN | apply Kd.R_drew)); exact HO_5.out) hb); have n1_ := Aside0.mk (Kd.R_below (by (with_reducible repeat (first | apply Kd.R_alloc | apply Kd.R_drewN | apply Kd.R_drew)); exact HO_7.out) hb); have n2_ := Aside0.mk (Kd.R_below (by (with_reducible repeat (first | apply Kd.R_alloc | apply Kd.R_drewN | apply Kd.R_drew)); exact HO_13.out) hb); have n3_ := Aside0.mk (blk_below (g := gb279) (o := .cells #[.int .i64 x280000_3, .int .i64 x280001_3] 45 (0, 0)) (by (with_reducible repeat (first | refine blk_drewN ?_ _ | refine blk_drew ?_ | refine blk_alloc ?_ _)); exact BK279.out) hb); have n4_ := Aside0.mk (below_step (by repeat (first | (with_reducible first | exact HB.out | apply below_alloc | apply pw_below_drewN | apply below_drew1 | refine below_set ?_ GE279.out) | exact HB.out)) hb); clear HO_5; clear HO_7; clear HO_13; clear BK279; clear HB; have HO_5 := n0_; have HO_7 := n1_; have HO_13 := n2_; have BK279 := n3_; have HB := n4_; clear n0_ n1_ n2_ n3_ n4_; (try clear hb); (try clear hb2); (try clear hk); (try clear hi)) | (go_at_call 30; (with_reducible refine (impl_Judge.calls t313 t314 t315 t316 t317 t318 _ A77.out).mono ?_); rintro e w' ⟨rfl, ⟨nd, rfl⟩⟩; (try first | exact ⟨rfl, _, World.drewN_drewN _ _ _⟩ | exact ⟨rfl, _, Eq.trans (World.drewN_drewN _ _ _) (congrArg (World.drewN _) (Nat.add_assoc _ _ _))⟩)) | (go_at_call 31; (with_reducible refine (spec_Judge.calls k3 t313 t314 t315 t316 t319 t320 _ A78.out).mono ?_); rintro e w86 ⟨rfl, hb⟩; have n0_ := Aside0.mk (Kd.R_below (by (with_reducible repeat (first | apply Kd.R_alloc | apply Kd.R_drewN | apply Kd.R_drew)); exact HO_5.out) hb); have n1_ := Aside0.mk (Kd.R_below (by (with_reducible repeat (first | apply Kd.R_alloc | apply Kd.R_drewN | apply Kd.R_drew)); exact HO_7.out) hb); have n2_ := Aside0.mk (Kd.R_below (by (with_reducible repeat (first | apply Kd.R_alloc | apply Kd.R_drewN | apply Kd.R_drew)); exact HO_13.out) hb); have n3_ := Aside0.mk (blk_below (g := gb279) (o := .cells #[.int .i64 x280000_3, .int .i64 x280001_3] 45 (0, 0)) (by (with_reducible repeat (first | refine blk_drewN ?_ _ | refine blk_drew ?_ | refine blk_alloc ?_ _)); exact BK279.out) hb); have n4_ := Aside0.mk (below_step (by repeat (first | (with_reducible first | exact HB.out | apply below_alloc | apply pw_below_drewN | apply below_drew1 | refine below_set ?_ GE279.out) | exact HB.out)) hb); clear HO_5; clear HO_7; clear HO_13; clear BK279; clear HB; have HO_5 := n0_; have HO_7 := n1_; have HO_13 := n2_; have BK279 := n3_; have HB := n4_; clear n0_ n1_ n2_ n3_ n4_; (try clear hb); (try clear hb2); (try clear hk); (try clear hi)))
                   repeat (go_quiet (first | (go_at_call 29; (with_reducible refine (spec_DrawJudge.calls _ _ l0 t313 t314 t315 t316 _ ?side1 ?side2 A76.out).mono ?_); (case side1 => repeat (first | exact (Kd.C_below HR0.out HB.out) | (with_reducible refine Kd.C_alloc ?_ _) | (with_reducible refine Kd.C_drewN ?_ _) | (with_reducible refine Kd.C_drew ?_))); (case side2 => exact HC0.out); rintro e w85 ⟨rfl, hb⟩; have n0_ := Aside0.mk (Kd.R_below (by (with_reducible repeat (first | apply Kd.R_alloc | apply Kd.R_drewN | apply Kd.R_drew)); exact HO_5.out) hb); have n1_ := Aside0.mk (Kd.R_below (by (with_reducible repeat (first | apply Kd.R_alloc | apply Kd.R_drewN | apply Kd.R_drew)); exact HO_7.out) hb); have n2_ := Aside0.mk (Kd.R_below (by (with_reducible repeat (first | apply Kd.R_alloc | apply Kd.R_drewN | apply Kd.R_drew)); exact HO_13.out) hb); have n3_ := Aside0.mk (blk_below (g := gb279) (o := .cells #[.int .i64 x280000_3, .int .i64 x280001_3] 45 (0, 0)) (by (with_reducible repeat (first | refine blk_drewN ?_ _ | refine blk_drew ?_ | refine blk_alloc ?_ _)); exact BK279.out) hb); have n4_ := Aside0.mk (below_step (by repeat (first | (with_reducible first | exact HB.out | apply below_alloc | apply pw_below_drewN | apply below_drew1 | refine below_set ?_ GE279.out) | exact HB.out)) hb); clear HO_5; clear HO_7; clear HO_13; clear BK279; clear HB; have HO_5 := n0_; have HO_7 := n1_; have HO_13 := n2_; have BK279 := n3_; have HB := n4_; clear n0_ n1_ n2_ n3_ n4_; (try clear hb); (try clear hb2); (try clear hk); (try clear hi)) | (go_at_call 30; (with_reducible refine (impl_Judge.calls t313 t314 t315 t316 t317 t318 _ A77.out).mono ?_); rintro e w' ⟨rfl, ⟨nd, rfl⟩⟩; (try first | exact ⟨rfl, _, World.drewN_drewN _ _ _⟩ | exact ⟨rfl, _, Eq.trans (World.drewN_drewN _ _ _) (congrArg (World.drewN _) (Nat.add_assoc _ _ _))⟩)) | (go_at_call 31; (with_reducible refine (spec_Judge.calls k3 t313 t314 t315 t316 t319 t320 _ A78.out).mono ?_); rintro e w86 ⟨rfl, hb⟩; have n0_ := Aside0.mk (Kd.R_below (by (with_reducible repeat (first | apply Kd.R_alloc | apply Kd.R_drewN | apply Kd.R_drew)); exact HO_5.out) hb); have n1_ := Aside0.mk (Kd.R_below (by (with_reducible repeat (first | apply Kd.R_alloc | apply Kd.R_drewN | apply Kd.R_drew)); exact HO_7.out) hb); have n2_ := Aside0.mk (Kd.R_below (by (with_reducible repeat (first | apply Kd.R_alloc | apply Kd.R_drewN | apply Kd.R_drew)); exact HO_13.out) hb); have n3_ := Aside0.mk (blk_below (g := gb279) (o := .cells #[.int .i64 x280000_3, .int .i64 x280001_3] 45 (0, 0)) (by (with_reducible repeat (first | refine blk_drewN ?_ _ | refine blk_drew ?_ | refine blk_alloc ?_ _)); exact BK279.out) hb); have n4_ := Aside0.mk (below_step (by repeat (first | (with_reducible first | exact HB.out | apply below_alloc | apply pw_below_drewN | apply below_drew1 | refine below_set ?_ GE279.out) | exact HB.out)) hb); clear HO_5; clear HO_7; clear HO_13; clear BK279; clear HB; have HO_5 := n0_; have HO_7 := n1_; have HO_13 := n2_; have BK279 := n3_; have HB := n4_; clear n0_ n1_ n2_ n3_ n4_; (try clear hb); (try clear hb2); (try clear hk); (try clear hi))); go_upto_region 36 with (first | (go_at_call 29; (with_reducible refine (spec_DrawJudge.calls _ _ l0 t313 t314 t315 t316 _ ?side1 ?side2 A76.out).mono ?_); (case side1 => repeat (first | exact (Kd.C_below HR0.out HB.out) | (with_reducible refine Kd.C_alloc ?_ _) | (with_reducible refine Kd.C_drewN ?_ _) | (with_reducible refine Kd.C_drew ?_))); (case side2 => exact HC0.out); rintro e w85 ⟨rfl, hb⟩; have n0_ := Aside0.mk (Kd.R_below (by (with_reducible repeat (first | apply Kd.R_alloc | apply Kd.R_drewN | apply Kd.R_drew)); exact HO_5.out) hb); have n1_ := Aside0.mk (Kd.R_below (by (with_reducible repeat (first | apply Kd.R_alloc | apply Kd.R_drewN | apply Kd.R_drew)); exact HO_7.out) hb); have n2_ := Aside0.mk (Kd.R_below (by (with_reducible repeat (first | apply Kd.R_alloc | apply Kd.R_drewN | apply Kd.R_drew)); exact HO_13.out) hb); have n3_ := Aside0.mk (blk_below (g := gb279) (o := .cells #[.int .i64 x280000_3, .int .i64 x280001_3] 45 (0, 0)) (by (with_reducible repeat (first | refine blk_drewN ?_ _ | refine blk_drew ?_ | refine blk_alloc ?_ _)); exact BK279.out) hb); have n4_ := Aside0.mk (below_step (by repeat (first | (with_reducible first | exact HB.out | apply below_alloc | apply pw_below_drewN | apply below_drew1 | refine below_set ?_ GE279.out) | exact HB.out)) hb); clear HO_5; clear HO_7; clear HO_13; clear BK279; clear HB; have HO_5 := n0_; have HO_7 := n1_; have HO_13 := n2_; have BK279 := n3_; have HB := n4_; clear n0_ n1_ n2_ n3_ n4_; (try clear hb); (try clear hb2); (try clear hk); (try clear hi)) | (go_at_call 30; (with_reducible refine (impl_Judge.calls t313 t314 t315 t316 t317 t318 _ A77.out).mono ?_); rintro e w' ⟨rfl, ⟨nd, rfl⟩⟩; (try first | exact ⟨rfl, _, World.drewN_drewN _ _ _⟩ | exact ⟨rfl, _, Eq.trans (World.drewN_drewN _ _ _) (congrArg (World.drewN _) (Nat.add_assoc _ _ _))⟩)) | (go_at_call 31; (with_reducible refine (spec_Judge.calls k3 t313 t314 t315 t316 t319 t320 _ A78.out).mono ?_); rintro e w86 ⟨rfl, hb⟩; have n0_ := Aside0.mk (Kd.R_below (by (with_reducible repeat (first | apply Kd.R_alloc | apply Kd.R_drewN | apply Kd.R_drew)); exact HO_5.out) hb); have n1_ := Aside0.mk (Kd.R_below (by (with_reducible repeat (first | apply Kd.R_alloc | apply Kd.R_drewN | apply Kd.R_drew)); exact HO_7.out) hb); have n2_ := Aside0.mk (Kd.R_below (by (with_reducible repeat (first | apply Kd.R_alloc | apply Kd.R_drewN | apply Kd.R_drew)); exact HO_13.out) hb); have n3_ := Aside0.mk (blk_below (g := gb279) (o := .cells #[.int .i64 x280000_3, .int .i64 x280001_3] 45 (0, 0)) (by (with_reducible repeat (first | refine blk_drewN ?_ _ | refine blk_drew ?_ | refine blk_alloc ?_ _)); exact BK279.out) hb); have n4_ := Aside0.mk (below_step (by repeat (first | (with_reducible first | exact HB.out | apply below_alloc | apply pw_below_drewN | apply below_drew1 | refine below_set ?_ GE279.out) | exact HB.out)) hb); clear HO_5; clear HO_7; clear HO_13; clear BK279; clear HB; have HO_5 := n0_; have HO_7 := n1_; have HO_13 := n2_; have BK279 := n3_; have HB := n4_; clear n0_ n1_ n2_ n3_ n4_; (try clear hb); (try clear hb2); (try clear hk); (try clear hi))))
                   (try simp only [Act.put, List.setIfInBounds_toArray, List.set_cons_zero, List.set_cons_succ])
                   go_cut [4] (fun v4 wc => ∃ (kq : Nat) (x4_82 : Bool), v4 = .bool x4_82 ∧ Aside0 (laws_FnProbe.j6 kq x4_82 = some r) ∧ Aside0 (kq ≤ k3) ∧ Aside0 (wc.heap[gb279]? = some (.cells #[.int .i64 x280000_3, .int .i64 x280001_3] 45 (0, 0))) ∧ Aside0 (Below w.heap.size w wc))
                   case first => as_aux_lemma =>
                    have H := HC83.out
                    clear HC83
                    by_cases c87 : ((t317 == 1) == (decide ((wrap64 (t313 + t316)) ≤ t315))) = true
                    ·rw [if_pos c87] at H
                     have c87b0 : ((t317 == 1) == (decide ((wrap64 (t313 + t316)) ≤ t315))) = true := c87
                     (try (have c87b1 : decide ((t317 == 1) = (decide ((wrap64 (t313 + t316)) ≤ t315))) = true := by simpa using c87))
                     (try (have c87b2 : ((t317 == 1) == (decide ((wrap64 (t313 + t316)) ≤ t315))) = true := by simpa using c87))
                     clear c87
                     (first | rw [c87b0] | (simp only [i64_w, i32_w]; rw [c87b0]) | skip)
                     by_cases c88 : ((t317 == 2) == (!(decide ((wrap64 (t313 - t316)) ≤ t315)))) = true
                     ·rw [if_pos c88] at H
                      have c88b0 : ((t317 == 2) == (!(decide ((wrap64 (t313 - t316)) ≤ t315)))) = true := c88
                      (try (have c88b1 : decide ((t317 == 2) = (!(decide ((wrap64 (t313 - t316)) ≤ t315)))) = true := by simpa using c88))
                      (try (have c88b2 : ((t317 == 2) == (!(decide ((wrap64 (t313 - t316)) ≤ t315)))) = true := by simpa using c88))
                      clear c88
                      by_cases c89 : t317 ≥ 1
                      ·rw [if_pos c89] at H
                       have c89b0 : decide (1 ≤ t317) = true := decide_eq_true c89
                       clear c89
                       have H' := Aside0.mk H
                       clear H
                       go_wp2
                       repeat (go_quiet (fail); try go_wp2)
                       go_meet
                       case rel => exact ⟨_, (decide (t317 ≤ 3)), (by first | rfl | (simp; done) | (simp [*]; done)), H', ⟨by have := HJ2.out; have := HJ11.out; have := HK3.out; first | omega | exact Nat.le_refl _⟩, ⟨by (with_reducible repeat (first | refine blk_drewN ?_ _ | refine blk_drew ?_ | refine blk_alloc ?_ _)); exact BK279.out⟩, ⟨by repeat (first | (with_reducible first | exact HB.out | apply below_alloc | apply pw_below_drewN | apply below_drew1 | refine below_set ?_ GE279.out) | exact HB.out)⟩⟩
                      ·rw [if_neg c89] at H
                       have c89b0 : decide (1 ≤ t317) = false := decide_eq_false c89
                       clear c89
                       have H' := Aside0.mk H
                       clear H
                       go_wp2
                       repeat (go_quiet (fail); try go_wp2)
                       go_meet
                       case rel => exact ⟨_, (false), (by first | rfl | (simp; done) | (simp [*]; done)), H', ⟨by have := HJ2.out; have := HJ11.out; have := HK3.out; first | omega | exact Nat.le_refl _⟩, ⟨by (with_reducible repeat (first | refine blk_drewN ?_ _ | refine blk_drew ?_ | refine blk_alloc ?_ _)); exact BK279.out⟩, ⟨by repeat (first | (with_reducible first | exact HB.out | apply below_alloc | apply pw_below_drewN | apply below_drew1 | refine below_set ?_ GE279.out) | exact HB.out)⟩⟩
                     ·rw [if_neg c88] at H
                      have c88b0 : ((t317 == 2) == (!(decide ((wrap64 (t313 - t316)) ≤ t315)))) = false := by simpa using c88
                      (try (have c88b1 : decide ((t317 == 2) = (!(decide ((wrap64 (t313 - t316)) ≤ t315)))) = false := by simpa using c88))
                      (try (have c88b2 : ((t317 == 2) == (!(decide ((wrap64 (t313 - t316)) ≤ t315)))) = false := by simpa using c88))
                      (try (have c88b3 : ¬ ((t317 == 2) = (!(decide ((wrap64 (t313 - t316)) ≤ t315)))) := by simpa using c88))
                      clear c88
                      have H' := Aside0.mk H
                      clear H
                      go_wp2
                      repeat (go_quiet (fail); try go_wp2)
                      go_meet
                      case rel => exact ⟨_, (false), (by first | rfl | (simp; done) | (simp [*]; done)), H', ⟨by have := HJ2.out; have := HJ11.out; have := HK3.out; first | omega | exact Nat.le_refl _⟩, ⟨by (with_reducible repeat (first | refine blk_drewN ?_ _ | refine blk_drew ?_ | refine blk_alloc ?_ _)); exact BK279.out⟩, ⟨by repeat (first | (with_reducible first | exact HB.out | apply below_alloc | apply pw_below_drewN | apply below_drew1 | refine below_set ?_ GE279.out) | exact HB.out)⟩⟩
                    ·rw [if_neg c87] at H
                     have c87b0 : ((t317 == 1) == (decide ((wrap64 (t313 + t316)) ≤ t315))) = false := by simpa using c87
                     (try (have c87b1 : decide ((t317 == 1) = (decide ((wrap64 (t313 + t316)) ≤ t315))) = false := by simpa using c87))
                     (try (have c87b2 : ((t317 == 1) == (decide ((wrap64 (t313 + t316)) ≤ t315))) = false := by simpa using c87))
                     (try (have c87b3 : ¬ ((t317 == 1) = (decide ((wrap64 (t313 + t316)) ≤ t315))) := by simpa using c87))
                     clear c87
                     (first | rw [c87b0] | (simp only [i64_w, i32_w]; rw [c87b0]) | skip)
                     have H' := Aside0.mk H
                     clear H
                     go_wp2
                     repeat (go_quiet (fail); try go_wp2)
                     go_meet
                     case rel => exact ⟨_, (false), (by first | rfl | (simp; done) | (simp [*]; done)), H', ⟨by have := HJ2.out; have := HJ11.out; have := HK3.out; first | omega | exact Nat.le_refl _⟩, ⟨by (with_reducible repeat (first | refine blk_drewN ?_ _ | refine blk_drew ?_ | refine blk_alloc ?_ _)); exact BK279.out⟩, ⟨by repeat (first | (with_reducible first | exact HB.out | apply below_alloc | apply pw_below_drewN | apply below_drew1 | refine below_set ?_ GE279.out) | exact HB.out)⟩⟩
                   case rest => as_aux_lemma =>
                    clear HC83
                    try clear c1
                    try clear c2
                    try clear p2
                    try clear q2
                    try clear hx2
                    try clear c3
                    try clear p3
                    try clear q3
                    try clear hx3
                    try clear c4
                    try clear c4b0
                    try clear c4b1
                    try clear c5
                    try clear q5
                    try clear c6
                    try clear p6
                    try clear c7
                    try clear p7
                    try clear q7
                    try clear hx7
                    try clear hf7
                    try clear c8
                    try clear c8b0
                    try clear c9
                    try clear c9b0
                    try clear c20
                    try clear c20b0
                    try clear c20b1
                    try clear c22
                    try clear c23
                    try clear c23b0
                    try clear c23b1
                    try clear p27
                    try clear q27
                    try clear hx27
                    try clear p29
                    try clear q29
                    try clear hx29
                    try clear c30
                    try clear p30
                    try clear q30
                    try clear hx30
                    try clear c31
                    try clear c31b0
                    try clear c31b1
                    try clear p31
                    try clear q31
                    try clear hx31
                    try clear c32
                    try clear c32b0
                    try clear c32b1
                    try clear c35
                    try clear c35b0
                    try clear c38
                    try clear c38b0
                    try clear c39
                    try clear c39b0
                    try clear c40
                    try clear c40b0
                    try clear c41
                    try clear c41b0
                    try clear c42
                    try clear c42b0
                    try clear c44
                    try clear c45
                    try clear c45b0
                    try clear c46
                    try clear c46b0
                    try clear c47
                    try clear c47b0
                    try clear c48
                    try clear c48b0
                    try clear c52
                    try clear c52b0
                    try clear c54
                    try clear c54b0
                    try clear c55
                    try clear c55b0
                    try clear q56
                    try clear c57
                    try clear c61
                    try clear c61b0
                    try clear p64
                    try clear c66
                    try clear c66b0
                    try clear c67
                    try clear c67b0
                    try clear c68
                    try clear c68b0
                    try clear c69
                    try clear c69b0
                    try clear p70
                    try clear q70
                    try clear hx70
                    try clear hf70
                    try clear c71
                    try clear c71b0
                    try clear c75
                    try clear c75b0
                    try clear c75b1
                    try clear c79
                    try clear c79b0
                    try clear c79b1
                    try clear c80
                    try clear c80b0
                    try clear c80b1
                    try clear c81
                    try clear c81b0
                    try clear c82
                    try clear c82b0
                    try clear c87
                    try clear c87b0
                    try clear c87b1
                    try clear c87b2
                    try clear c88
                    try clear c88b0
                    try clear c88b1
                    try clear c88b2
                    try clear c89
                    try clear c89b0
                    try clear hcz16_0
                    try clear hcz16_1
                    try clear hcz18_0
                    try clear hcz18_1
                    try clear hcz51_0
                    try clear hcz51_1
                    try clear hcz63_0
                    try clear hcz63_1
                    try clear hcz65_0
                    try clear hcz65_1
                    try clear hcz74_0
                    try clear hcz74_1
                    try clear hfz16_0
                    try clear hfz16_1
                    try clear hfz18_0
                    try clear hfz18_1
                    try clear hfz51_0
                    try clear hfz51_1
                    try clear hfz63_0
                    try clear hfz63_1
                    try clear hfz65_0
                    try clear hfz65_1
                    try clear hfz74_0
                    try clear hfz74_1
                    try clear hx278_0
                    try clear hx278_1
                    try clear hx294_0
                    try clear hx295_0
                    try clear hx296_0
                    try clear hx297_0
                    try clear hx298_0
                    try clear hx299_0
                    try clear hx299_1
                    try clear hx301_0
                    try clear hx302_0
                    try clear hx302_1
                    try clear hx304_0
                    try clear hx305_0
                    try clear hx305_1
                    try clear hx307_0
                    try clear hx307_1
                    try clear hx309_0
                    try clear hx311_0
                    try clear hx312_0
                    try clear hx312_1
                    try clear hx70_0
                    try clear p2
                    try clear p27
                    try clear p278
                    try clear p29
                    try clear p294
                    try clear p295
                    try clear p296
                    try clear p297
                    try clear p298
                    try clear p299
                    try clear p3
                    try clear p30
                    try clear p301
                    try clear p302
                    try clear p304
                    try clear p305
                    try clear p307
                    try clear p309
                    try clear p311
                    try clear p312
                    try clear p6
                    try clear p64
                    try clear p70
                    try clear q2
                    try clear q27
                    try clear q278
                    try clear q29
                    try clear q294
                    try clear q295
                    try clear q296
                    try clear q297
                    try clear q298
                    try clear q299
                    try clear q3
                    try clear q30
                    try clear q301
                    try clear q302
                    try clear q304
                    try clear q305
                    try clear q307
                    try clear q309
                    try clear q311
                    try clear q312
                    try clear q5
                    try clear q56
                    try clear q70
                    obtain ⟨kq, x4_82, rfl, HA, HJ82, BK279, HB⟩ := hcut
                    cases kq with
                    | zero => exact absurd HA.out (by simp [laws_FnProbe.j6])
                    | succ kj82 =>
                     have H := HA.out
                     clear HA
                     simp only [laws_FnProbe.j6] at H
                     obtain rfl := Option.some.inj H
                     go_wp2
                     repeat (go_quiet (fail); try go_wp2)
                     go_ret
                     exact ⟨by first | rfl | (simp [errW_none, errW_some] <;> rfl) | (simp [*, errW_none, errW_some] <;> rfl), by repeat (first | (with_reducible first | exact HB.out | apply below_alloc | apply pw_below_drewN | apply below_drew1 | refine below_set ?_ GE279.out) | exact HB.out)⟩
                  ·rw [if_neg c82] at H
                   have c82b0 : decide (t314 ≤ (wrap64 (t313 - t316))) = false := decide_eq_false c82
                   clear c82
                   have HC90 := Aside0.mk H
                   clear H
                   obtain ⟨Ao91, co91, eo91⟩ := Kd.R_slice HO_7.out
                   subst eo91
                   go_upto_region 36 with (first | (go_at_call 29; (with_reducible refine (spec_DrawJudge.calls _ _ l0 t313 t314 t315 t316 _ ?side1 ?side2 A76.out).mono ?_); (case side1 => repeat (first | exact (Kd.C_below HR0.out HB.out) | (with_reducible refine Kd.C_alloc ?_ _) | (with_reducible refine Kd.C_drewN ?_ _) | (with_reducible refine Kd.C_drew ?_))); (case side2 => exact HC0.out); rintro e w92 ⟨rfl, hb⟩; have n0_ := Aside0.mk (Kd.R_below (by (with_reducible repeat (first | apply Kd.R_alloc | apply Kd.R_drewN | apply Kd.R_drew)); exact HO_5.out) hb); have n1_ := Aside0.mk (Kd.R_below (by (with_reducible repeat (first | apply Kd.R_alloc | apply Kd.R_drewN | apply Kd.R_drew)); exact HO_7.out) hb); have n2_ := Aside0.mk (Kd.R_below (by (with_reducible repeat (first | apply Kd.R_alloc | apply Kd.R_drewN | apply Kd.R_drew)); exact HO_13.out) hb); have n3_ := Aside0.mk (blk_below (g := gb279) (o := .cells #[.int .i64 x280000_3, .int .i64 x280001_3] 45 (0, 0)) (by (with_reducible repeat (first | refine blk_drewN ?_ _ | refine blk_drew ?_ | refine blk_alloc ?_ _)); exact BK279.out) hb); have n4_ := Aside0.mk (below_step (by repeat (first | (with_reducible first | exact HB.out | apply below_alloc | apply pw_below_drewN | apply below_drew1 | refine below_set ?_ GE279.out) | exact HB.out)) hb); clear HO_5; clear HO_7; clear HO_13; clear BK279; clear HB; have HO_5 := n0_; have HO_7 := n1_; have HO_13 := n2_; have BK279 := n3_; have HB := n4_; clear n0_ n1_ n2_ n3_ n4_; (try clear hb); (try clear hb2); (try clear hk); (try clear hi)) | (go_at_call 30; (with_reducible refine (impl_Judge.calls t313 t314 t315 t316 t317 t318 _ A77.out).mono ?_); rintro e w' ⟨rfl, ⟨nd, rfl⟩⟩; (try first | exact ⟨rfl, _, World.drewN_drewN _ _ _⟩ | exact ⟨rfl, _, Eq.trans (World.drewN_drewN _ _ _) (congrArg (World.drewN _) (Nat.add_assoc _ _ _))⟩)) | (go_at_call 31; (with_reducible refine (spec_Judge.calls k3 t313 t314 t315 t316 t319 t320 _ A78.out).mono ?_); rintro e w93 ⟨rfl, hb⟩; have n0_ := Aside0.mk (Kd.R_below (by (with_reducible repeat (first | apply Kd.R_alloc | apply Kd.R_drewN | apply Kd.R_drew)); exact HO_5.out) hb); have n1_ := Aside0.mk (Kd.R_below (by (with_reducible repeat (first | apply Kd.R_alloc | apply Kd.R_drewN | apply Kd.R_drew)); exact HO_7.out) hb); have n2_ := Aside0.mk (Kd.R_below (by (with_reducible repeat (first | apply Kd.R_alloc | apply Kd.R_drewN | apply Kd.R_drew)); exact HO_13.out) hb); have n3_ := Aside0.mk (blk_below (g := gb279) (o := .cells #[.int .i64 x280000_3, .int .i64 x280001_3] 45 (0, 0)) (by (with_reducible repeat (first | refine blk_drewN ?_ _ | refine blk_drew ?_ | refine blk_alloc ?_ _)); exact BK279.out) hb); have n4_ := Aside0.mk (below_step (by repeat (first | (with_reducible first | exact HB.out | apply below_alloc | apply pw_below_drewN | apply below_drew1 | refine below_set ?_ GE279.out) | exact HB.out)) hb); clear HO_5; clear HO_7; clear HO_13; clear BK279; clear HB; have HO_5 := n0_; have HO_7 := n1_; have HO_13 := n2_; have BK279 := n3_; have HB := n4_; clear n0_ n1_ n2_ n3_ n4_; (try clear hb); (try clear hb2); (try clear hk); (try clear hi)))
                   repeat (go_quiet (first | (go_at_call 29; (with_reducible refine (spec_DrawJudge.calls _ _ l0 t313 t314 t315 t316 _ ?side1 ?side2 A76.out).mono ?_); (case side1 => repeat (first | exact (Kd.C_below HR0.out HB.out) | (with_reducible refine Kd.C_alloc ?_ _) | (with_reducible refine Kd.C_drewN ?_ _) | (with_reducible refine Kd.C_drew ?_))); (case side2 => exact HC0.out); rintro e w92 ⟨rfl, hb⟩; have n0_ := Aside0.mk (Kd.R_below (by (with_reducible repeat (first | apply Kd.R_alloc | apply Kd.R_drewN | apply Kd.R_drew)); exact HO_5.out) hb); have n1_ := Aside0.mk (Kd.R_below (by (with_reducible repeat (first | apply Kd.R_alloc | apply Kd.R_drewN | apply Kd.R_drew)); exact HO_7.out) hb); have n2_ := Aside0.mk (Kd.R_below (by (with_reducible repeat (first | apply Kd.R_alloc | apply Kd.R_drewN | apply Kd.R_drew)); exact HO_13.out) hb); have n3_ := Aside0.mk (blk_below (g := gb279) (o := .cells #[.int .i64 x280000_3, .int .i64 x280001_3] 45 (0, 0)) (by (with_reducible repeat (first | refine blk_drewN ?_ _ | refine blk_drew ?_ | refine blk_alloc ?_ _)); exact BK279.out) hb); have n4_ := Aside0.mk (below_step (by repeat (first | (with_reducible first | exact HB.out | apply below_alloc | apply pw_below_drewN | apply below_drew1 | refine below_set ?_ GE279.out) | exact HB.out)) hb); clear HO_5; clear HO_7; clear HO_13; clear BK279; clear HB; have HO_5 := n0_; have HO_7 := n1_; have HO_13 := n2_; have BK279 := n3_; have HB := n4_; clear n0_ n1_ n2_ n3_ n4_; (try clear hb); (try clear hb2); (try clear hk); (try clear hi)) | (go_at_call 30; (with_reducible refine (impl_Judge.calls t313 t314 t315 t316 t317 t318 _ A77.out).mono ?_); rintro e w' ⟨rfl, ⟨nd, rfl⟩⟩; (try first | exact ⟨rfl, _, World.drewN_drewN _ _ _⟩ | exact ⟨rfl, _, Eq.trans (World.drewN_drewN _ _ _) (congrArg (World.drewN _) (Nat.add_assoc _ _ _))⟩)) | (go_at_call 31; (with_reducible refine (spec_Judge.calls k3 t313 t314 t315 t316 t319 t320 _ A78.out).mono ?_); rintro e w93 ⟨rfl, hb⟩; have n0_ := Aside0.mk (Kd.R_below (by (with_reducible repeat (first | apply Kd.R_alloc | apply Kd.R_drewN | apply Kd.R_drew)); exact HO_5.out) hb); have n1_ := Aside0.mk (Kd.R_below (by (with_reducible repeat (first | apply Kd.R_alloc | apply Kd.R_drewN | apply Kd.R_drew)); exact HO_7.out) hb); have n2_ := Aside0.mk (Kd.R_below (by (with_reducible repeat (first | apply Kd.R_alloc | apply Kd.R_drewN | apply Kd.R_drew)); exact HO_13.out) hb); have n3_ := Aside0.mk (blk_below (g := gb279) (o := .cells #[.int .i64 x280000_3, .int .i64 x280001_3] 45 (0, 0)) (by (with_reducible repeat (first | refine blk_drewN ?_ _ | refine blk_drew ?_ | refine blk_alloc ?_ _)); exact BK279.out) hb); have n4_ := Aside0.mk (below_step (by repeat (first | (with_reducible first | exact HB.out | apply below_alloc | apply pw_below_drewN | apply below_drew1 | refine below_set ?_ GE279.out) | exact HB.out)) hb); clear HO_5; clear HO_7; clear HO_13; clear BK279; clear HB; have HO_5 := n0_; have HO_7 := n1_; have HO_13 := n2_; have BK279 := n3_; have HB := n4_; clear n0_ n1_ n2_ n3_ n4_; (try clear hb); (try clear hb2); (try clear hk); (try clear hi))); go_upto_region 36 with (first | (go_at_call 29; (with_reducible refine (spec_DrawJudge.calls _ _ l0 t313 t314 t315 t316 _ ?side1 ?side2 A76.out).mono ?_); (case side1 => repeat (first | exact (Kd.C_below HR0.out HB.out) | (with_reducible refine Kd.C_alloc ?_ _) | (with_reducible refine Kd.C_drewN ?_ _) | (with_reducible refine Kd.C_drew ?_))); (case side2 => exact HC0.out); rintro e w92 ⟨rfl, hb⟩; have n0_ := Aside0.mk (Kd.R_below (by (with_reducible repeat (first | apply Kd.R_alloc | apply Kd.R_drewN | apply Kd.R_drew)); exact HO_5.out) hb); have n1_ := Aside0.mk (Kd.R_below (by (with_reducible repeat (first | apply Kd.R_alloc | apply Kd.R_drewN | apply Kd.R_drew)); exact HO_7.out) hb); have n2_ := Aside0.mk (Kd.R_below (by (with_reducible repeat (first | apply Kd.R_alloc | apply Kd.R_drewN | apply Kd.R_drew)); exact HO_13.out) hb); have n3_ := Aside0.mk (blk_below (g := gb279) (o := .cells #[.int .i64 x280000_3, .int .i64 x280001_3] 45 (0, 0)) (by (with_reducible repeat (first | refine blk_drewN ?_ _ | refine blk_drew ?_ | refine blk_alloc ?_ _)); exact BK279.out) hb); have n4_ := Aside0.mk (below_step (by repeat (first | (with_reducible first | exact HB.out | apply below_alloc | apply pw_below_drewN | apply below_drew1 | refine below_set ?_ GE279.out) | exact HB.out)) hb); clear HO_5; clear HO_7; clear HO_13; clear BK279; clear HB; have HO_5 := n0_; have HO_7 := n1_; have HO_13 := n2_; have BK279 := n3_; have HB := n4_; clear n0_ n1_ n2_ n3_ n4_; (try clear hb); (try clear hb2); (try clear hk); (try clear hi)) | (go_at_call 30; (with_reducible refine (impl_Judge.calls t313 t314 t315 t316 t317 t318 _ A77.out).mono ?_); rintro e w' ⟨rfl, ⟨nd, rfl⟩⟩; (try first | exact ⟨rfl, _, World.drewN_drewN _ _ _⟩ | exact ⟨rfl, _, Eq.trans (World.drewN_drewN _ _ _) (congrArg (World.drewN _) (Nat.add_assoc _ _ _))⟩)) | (go_at_call 31; (with_reducible refine (spec_Judge.calls k3 t313 t314 t315 t316 t319 t320 _ A78.out).mono ?_); rintro e w93 ⟨rfl, hb⟩; have n0_ := Aside0.mk (Kd.R_below (by (with_reducible repeat (first | apply Kd.R_alloc | apply Kd.R_drewN | apply Kd.R_drew)); exact HO_5.out) hb); have n1_ := Aside0.mk (Kd.R_below (by (with_reducible repeat (first | apply Kd.R_alloc | apply Kd.R_drewN | apply Kd.R_drew)); exact HO_7.out) hb); have n2_ := Aside0.mk (Kd.R_below (by (with_reducible repeat (first | apply Kd.R_alloc | apply Kd.R_drewN | apply Kd.R_drew)); exact HO_13.out) hb); have n3_ := Aside0.mk (blk_below (g := gb279) (o := .cells #[.int .i64 x280000_3, .int .i64 x280001_3] 45 (0, 0)) (by (with_reducible repeat (first | refine blk_drewN ?_ _ | refine blk_drew ?_ | refine blk_alloc ?_ _)); exact BK279.out) hb); have n4_ := Aside0.mk (below_step (by repeat (first | (with_reducible first | exact HB.out | apply below_alloc | apply pw_below_drewN | apply below_drew1 | refine below_set ?_ GE279.out) | exact HB.out)) hb); clear HO_5; clear HO_7; clear HO_13; clear BK279; clear HB; have HO_5 := n0_; have HO_7 := n1_; have HO_13 := n2_; have BK279 := n3_; have HB := n4_; clear n0_ n1_ n2_ n3_ n4_; (try clear hb); (try clear hb2); (try clear hk); (try clear hi))))
                   (try simp only [Act.put, List.setIfInBounds_toArray, List.set_cons_zero, List.set_cons_succ])
                   go_cut [4] (fun v4 wc => ∃ (kq : Nat) (x4_89 : Bool), v4 = .bool x4_89 ∧ Aside0 (laws_FnProbe.j7 kq x4_89 = some r) ∧ Aside0 (kq ≤ k3) ∧ Aside0 (wc.heap[gb279]? = some (.cells #[.int .i64 x280000_3, .int .i64 x280001_3] 45 (0, 0))) ∧ Aside0 (Below w.heap.size w wc))
                   case first => as_aux_lemma =>
                    have H := HC90.out
                    clear HC90
                    by_cases c94 : ((t317 == 1) == false) = true
                    ·rw [if_pos c94] at H
                     have c94b0 : ((t317 == 1) == false) = true := c94
                     (try (have c94b1 : decide ((t317 == 1) = false) = true := by simpa using c94))
                     (try (have c94b2 : ((t317 == 1) == false) = true := by simpa using c94))
                     clear c94
                     (first | rw [c94b0] | (simp only [i64_w, i32_w]; rw [c94b0]) | skip)
                     by_cases c95 : ((t317 == 2) == (!(decide ((wrap64 (t313 - t316)) ≤ t315)))) = true
                     ·rw [if_pos c95] at H
                      have c95b0 : ((t317 == 2) == (!(decide ((wrap64 (t313 - t316)) ≤ t315)))) = true := c95
                      (try (have c95b1 : decide ((t317 == 2) = (!(decide ((wrap64 (t313 - t316)) ≤ t315)))) = true := by simpa using c95))
                      (try (have c95b2 : ((t317 == 2) == (!(decide ((wrap64 (t313 - t316)) ≤ t315)))) = true := by simpa using c95))
                      clear c95
                      by_cases c96 : t317 ≥ 1
                      ·rw [if_pos c96] at H
                       have c96b0 : decide (1 ≤ t317) = true := decide_eq_true c96
                       clear c96
                       have H' := Aside0.mk H
                       clear H
                       go_wp2
                       repeat (go_quiet (fail); try go_wp2)
                       go_meet
                       case rel => exact ⟨_, (decide (t317 ≤ 3)), (by first | rfl | (simp; done) | (simp [*]; done)), H', ⟨by have := HJ2.out; have := HJ11.out; have := HK3.out; first | omega | exact Nat.le_refl _⟩, ⟨by (with_reducible repeat (first | refine blk_drewN ?_ _ | refine blk_drew ?_ | refine blk_alloc ?_ _)); exact BK279.out⟩, ⟨by repeat (first | (with_reducible first | exact HB.out | apply below_alloc | apply pw_below_drewN | apply below_drew1 | refine below_set ?_ GE279.out) | exact HB.out)⟩⟩
                      ·rw [if_neg c96] at H
                       have c96b0 : decide (1 ≤ t317) = false := decide_eq_false c96
                       clear c96
                       have H' := Aside0.mk H
                       clear H
                       go_wp2
                       repeat (go_quiet (fail); try go_wp2)
                       go_meet
                       case rel => exact ⟨_, (false), (by first | rfl | (simp; done) | (simp [*]; done)), H', ⟨by have := HJ2.out; have := HJ11.out; have := HK3.out; first | omega | exact Nat.le_refl _⟩, ⟨by (with_reducible repeat (first | refine blk_drewN ?_ _ | refine blk_drew ?_ | refine blk_alloc ?_ _)); exact BK279.out⟩, ⟨by repeat (first | (with_reducible first | exact HB.out | apply below_alloc | apply pw_below_drewN | apply below_drew1 | refine below_set ?_ GE279.out) | exact HB.out)⟩⟩
                     ·rw [if_neg c95] at H
                      have c95b0 : ((t317 == 2) == (!(decide ((wrap64 (t313 - t316)) ≤ t315)))) = false := by simpa using c95
                      (try (have c95b1 : decide ((t317 == 2) = (!(decide ((wrap64 (t313 - t316)) ≤ t315)))) = false := by simpa using c95))
                      (try (have c95b2 : ((t317 == 2) == (!(decide ((wrap64 (t313 - t316)) ≤ t315)))) = false := by simpa using c95))
                      (try (have c95b3 : ¬ ((t317 == 2) = (!(decide ((wrap64 (t313 - t316)) ≤ t315)))) := by simpa using c95))
                      clear c95
                      have H' := Aside0.mk H
                      clear H
                      go_wp2
                      repeat (go_quiet (fail); try go_wp2)
                      go_meet
                      case rel => exact ⟨_, (false), (by first | rfl | (simp; done) | (simp [*]; done)), H', ⟨by have := HJ2.out; have := HJ11.out; have := HK3.out; first | omega | exact Nat.le_refl _⟩, ⟨by (with_reducible repeat (first | refine blk_drewN ?_ _ | refine blk_drew ?_ | refine blk_alloc ?_ _)); exact BK279.out⟩, ⟨by repeat (first | (with_reducible first | exact HB.out | apply below_alloc | apply pw_below_drewN | apply below_drew1 | refine below_set ?_ GE279.out) | exact HB.out)⟩⟩
                    ·rw [if_neg c94] at H
                     have c94b0 : ((t317 == 1) == false) = false := by simpa using c94
                     (try (have c94b1 : decide ((t317 == 1) = false) = false := by simpa using c94))
                     (try (have c94b2 : ((t317 == 1) == false) = false := by simpa using c94))
                     (try (have c94b3 : ¬ ((t317 == 1) = false) := by simpa using c94))
                     clear c94
                     (first | rw [c94b0] | (simp only [i64_w, i32_w]; rw [c94b0]) | skip)
                     have H' := Aside0.mk H
                     clear H
                     go_wp2
                     repeat (go_quiet (fail); try go_wp2)
                     go_meet
                     case rel => exact ⟨_, (false), (by first | rfl | (simp; done) | (simp [*]; done)), H', ⟨by have := HJ2.out; have := HJ11.out; have := HK3.out; first | omega | exact Nat.le_refl _⟩, ⟨by (with_reducible repeat (first | refine blk_drewN ?_ _ | refine blk_drew ?_ | refine blk_alloc ?_ _)); exact BK279.out⟩, ⟨by repeat (first | (with_reducible first | exact HB.out | apply below_alloc | apply pw_below_drewN | apply below_drew1 | refine below_set ?_ GE279.out) | exact HB.out)⟩⟩
                   case rest => as_aux_lemma =>
                    clear HC90
                    try clear c1
                    try clear c2
                    try clear p2
                    try clear q2
                    try clear hx2
                    try clear c3
                    try clear p3
                    try clear q3
                    try clear hx3
                    try clear c4
                    try clear c4b0
                    try clear c4b1
                    try clear c5
                    try clear q5
                    try clear c6
                    try clear p6
                    try clear c7
                    try clear p7
                    try clear q7
                    try clear hx7
                    try clear hf7
                    try clear c8
                    try clear c8b0
                    try clear c9
                    try clear c9b0
                    try clear c20
                    try clear c20b0
                    try clear c20b1
                    try clear c22
                    try clear c23
                    try clear c23b0
                    try clear c23b1
                    try clear p27
                    try clear q27
                    try clear hx27
                    try clear p29
                    try clear q29
                    try clear hx29
                    try clear c30
                    try clear p30
                    try clear q30
                    try clear hx30
                    try clear c31
                    try clear c31b0
                    try clear c31b1
                    try clear p31
                    try clear q31
                    try clear hx31
                    try clear c32
                    try clear c32b0
                    try clear c32b1
                    try clear c35
                    try clear c35b0
                    try clear c38
                    try clear c38b0
                    try clear c39
                    try clear c39b0
                    try clear c40
                    try clear c40b0
                    try clear c41
                    try clear c41b0
                    try clear c42
                    try clear c42b0
                    try clear c44
                    try clear c45
                    try clear c45b0
                    try clear c46
                    try clear c46b0
                    try clear c47
                    try clear c47b0
                    try clear c48
                    try clear c48b0
                    try clear c52
                    try clear c52b0
                    try clear c54
                    try clear c54b0
                    try clear c55
                    try clear c55b0
                    try clear q56
                    try clear c57
                    try clear c61
                    try clear c61b0
                    try clear p64
                    try clear c66
                    try clear c66b0
                    try clear c67
                    try clear c67b0
                    try clear c68
                    try clear c68b0
                    try clear c69
                    try clear c69b0
                    try clear p70
                    try clear q70
                    try clear hx70
                    try clear hf70
                    try clear c71
                    try clear c71b0
                    try clear c75
                    try clear c75b0
                    try clear c75b1
                    try clear c79
                    try clear c79b0
                    try clear c79b1
                    try clear c80
                    try clear c80b0
                    try clear c80b1
                    try clear c81
                    try clear c81b0
                    try clear c82
                    try clear c82b0
                    try clear c87
                    try clear c87b0
                    try clear c87b1
                    try clear c87b2
                    try clear c88
                    try clear c88b0
                    try clear c88b1
                    try clear c88b2
                    try clear c89
                    try clear c89b0
                    try clear c94
                    try clear c94b0
                    try clear c94b1
                    try clear c94b2
                    try clear c95
                    try clear c95b0
                    try clear c95b1
                    try clear c95b2
                    try clear c96
                    try clear c96b0
                    try clear hcz16_0
                    try clear hcz16_1
                    try clear hcz18_0
                    try clear hcz18_1
                    try clear hcz51_0
                    try clear hcz51_1
                    try clear hcz63_0
                    try clear hcz63_1
                    try clear hcz65_0
                    try clear hcz65_1
                    try clear hcz74_0
                    try clear hcz74_1
                    try clear hfz16_0
                    try clear hfz16_1
                    try clear hfz18_0
                    try clear hfz18_1
                    try clear hfz51_0
                    try clear hfz51_1
                    try clear hfz63_0
                    try clear hfz63_1
                    try clear hfz65_0
                    try clear hfz65_1
                    try clear hfz74_0
                    try clear hfz74_1
                    try clear hx278_0
                    try clear hx278_1
                    try clear hx294_0
                    try clear hx295_0
                    try clear hx296_0
                    try clear hx297_0
                    try clear hx298_0
                    try clear hx299_0
                    try clear hx299_1
                    try clear hx301_0
                    try clear hx302_0
                    try clear hx302_1
                    try clear hx304_0
                    try clear hx305_0
                    try clear hx305_1
                    try clear hx307_0
                    try clear hx307_1
                    try clear hx309_0
                    try clear hx311_0
                    try clear hx312_0
                    try clear hx312_1
                    try clear hx70_0
                    try clear p2
                    try clear p27
                    try clear p278
                    try clear p29
                    try clear p294
                    try clear p295
                    try clear p296
                    try clear p297
                    try clear p298
                    try clear p299
                    try clear p3
                    try clear p30
                    try clear p301
                    try clear p302
                    try clear p304
                    try clear p305
                    try clear p307
                    try clear p309
                    try clear p31
                    try clear p311
                    try clear p312
                    try clear p6
                    try clear p64
                    try clear p7
                    try clear p70
                    try clear q2
                    try clear q27
                    try clear q278
                    try clear q29
                    try clear q294
                    try clear q295
                    try clear q296
                    try clear q297
                    try clear q298
                    try clear q299
                    try clear q3
                    try clear q30
                    try clear q301
                    try clear q302
                    try clear q304
                    try clear q305
                    try clear q307
                    try clear q309
                    try clear q31
                    try clear q311
                    try clear q312
                    try clear q5
                    try clear q56
                    try clear q7
                    try clear q70
                    obtain ⟨kq, x4_89, rfl, HA, HJ89, BK279, HB⟩ := hcut
                    cases kq with
                    | zero => exact absurd HA.out (by simp [laws_FnProbe.j7])
                    | succ kj89 =>
                     have H := HA.out
                     clear HA
                     simp only [laws_FnProbe.j7] at H
                     obtain rfl := Option.some.inj H
                     go_wp2
                     repeat (go_quiet (fail); try go_wp2)
                     go_ret
                     exact ⟨by first | rfl | (simp [errW_none, errW_some] <;> rfl) | (simp [*, errW_none, errW_some] <;> rfl), by repeat (first | (with_reducible first | exact HB.out | apply below_alloc | apply pw_below_drewN | apply below_drew1 | refine below_set ?_ GE279.out) | exact HB.out)⟩
                 ·rw [if_neg c81] at H
                  have c81b0 : decide (t314 ≤ (wrap64 (t313 + t316))) = false := decide_eq_false c81
                  clear c81
                  by_cases c97 : (wrap64 (t313 - t316)) ≥ t314
                  ·rw [if_pos c97] at H
                   have c97b0 : decide (t314 ≤ (wrap64 (t313 - t316))) = true := decide_eq_true c97
                   clear c97
                   have HC98 := Aside0.mk H
                   clear H
                   obtain ⟨Ao99, co99, eo99⟩ := Kd.R_slice HO_7.out
                   subst eo99
                   go_upto_region 36 with (first | (go_at_call 29; (with_reducible refine (spec_DrawJudge.calls _ _ l0 t313 t314 t315 t316 _ ?side1 ?side2 A76.out).mono ?_); (case side1 => repeat (first | exact (Kd.C_below HR0.out HB.out) | (with_reducible refine Kd.C_alloc ?_ _) | (with_reducible refine Kd.C_drewN ?_ _) | (with_reducible refine Kd.C_drew ?_))); (case side2 => exact HC0.out); rintro e w100 ⟨rfl, hb⟩; have n0_ := Aside0.mk (Kd.R_below (by (with_reducible repeat (first | apply Kd.R_alloc | apply Kd.R_drewN | apply Kd.R_drew)); exact HO_5.out) hb); have n1_ := Aside0.mk (Kd.R_below (by (with_reducible repeat (first | apply Kd.R_alloc | apply Kd.R_drewN | apply Kd.R_drew)); exact HO_7.out) hb); have n2_ := Aside0.mk (Kd.R_below (by (with_reducible repeat (first | apply Kd.R_alloc | apply Kd.R_drewN | apply Kd.R_drew)); exact HO_13.out) hb); have n3_ := Aside0.mk (blk_below (g := gb279) (o := .cells #[.int .i64 x280000_3, .int .i64 x280001_3] 45 (0, 0)) (by (with_reducible repeat (first | refine blk_drewN ?_ _ | refine blk_drew ?_ | refine blk_alloc ?_ _)); exact BK279.out) hb); have n4_ := Aside0.mk (below_step (by repeat (first | (with_reducible first | exact HB.out | apply below_alloc | apply pw_below_drewN | apply below_drew1 | refine below_set ?_ GE279.out) | exact HB.out)) hb); clear HO_5; clear HO_7; clear HO_13; clear BK279; clear HB; have HO_5 := n0_; have HO_7 := n1_; have HO_13 := n2_; have BK279 := n3_; have HB := n4_; clear n0_ n1_ n2_ n3_ n4_; (try clear hb); (try clear hb2); (try clear hk); (try clear hi)) | (go_at_call 30; (with_reducible refine (impl_Judge.calls t313 t314 t315 t316 t317 t318 _ A77.out).mono ?_); rintro e w' ⟨rfl, ⟨nd, rfl⟩⟩; (try first | exact ⟨rfl, _, World.drewN_drewN _ _ _⟩ | exact ⟨rfl, _, Eq.trans (World.drewN_drewN _ _ _) (congrArg (World.drewN _) (Nat.add_assoc _ _ _))⟩)) | (go_at_call 31; (with_reducible refine (spec_Judge.calls k3 t313 t314 t315 t316 t319 t320 _ A78.out).mono ?_); rintro e w101 ⟨rfl, hb⟩; have n0_ := Aside0.mk (Kd.R_below (by (with_reducible repeat (first | apply Kd.R_alloc | apply Kd.R_drewN | apply Kd.R_drew)); exact HO_5.out) hb); have n1_ := Aside0.mk (Kd.R_below (by (with_reducible repeat (first | apply Kd.R_alloc | apply Kd.R_drewN | apply Kd.R_drew)); exact HO_7.out) hb); have n2_ := Aside0.mk (Kd.R_below (by (with_reducible repeat (first | apply Kd.R_alloc | apply Kd.R_drewN | apply Kd.R_drew)); exact HO_13.out) hb); have n3_ := Aside0.mk (blk_below (g := gb279) (o := .cells #[.int .i64 x280000_3, .int .i64 x280001_3] 45 (0, 0)) (by (with_reducible repeat (first | refine blk_drewN ?_ _ | refine blk_drew ?_ | refine blk_alloc ?_ _)); exact BK279.out) hb); have n4_ := Aside0.mk (below_step (by repeat (first | (with_reducible first | exact HB.out | apply below_alloc | apply pw_below_drewN | apply below_drew1 | refine below_set ?_ GE279.out) | exact HB.out)) hb); clear HO_5; clear HO_7; clear HO_13; clear BK279; clear HB; have HO_5 := n0_; have HO_7 := n1_; have HO_13 := n2_; have BK279 := n3_; have HB := n4_; clear n0_ n1_ n2_ n3_ n4_; (try clear hb); (try clear hb2); (try clear hk); (try clear hi)))
                   repeat (go_quiet (first | (go_at_call 29; (with_reducible refine (spec_DrawJudge.calls _ _ l0 t313 t314 t315 t316 _ ?side1 ?side2 A76.out).mono ?_); (case side1 => repeat (first | exact (Kd.C_below HR0.out HB.out) | (with_reducible refine Kd.C_alloc ?_ _) | (with_reducible refine Kd.C_drewN ?_ _) | (with_reducible refine Kd.C_drew ?_))); (case side2 => exact HC0.out); rintro e w100 ⟨rfl, hb⟩; have n0_ := Aside0.mk (Kd.R_below (by (with_reducible repeat (first | apply Kd.R_alloc | apply Kd.R_drewN | apply Kd.R_drew)); exact HO_5.out) hb); have n1_ := Aside0.mk (Kd.R_below (by (with_reducible repeat (first | apply Kd.R_alloc | apply Kd.R_drewN | apply Kd.R_drew)); exact HO_7.out) hb); have n2_ := Aside0.mk (Kd.R_below (by (with_reducible repeat (first | apply Kd.R_alloc | apply Kd.R_drewN | apply Kd.R_drew)); exact HO_13.out) hb); have n3_ := Aside0.mk (blk_below (g := gb279) (o := .cells #[.int .i64 x280000_3, .int .i64 x280001_3] 45 (0, 0)) (by (with_reducible repeat (first | refine blk_drewN ?_ _ | refine blk_drew ?_ | refine blk_alloc ?_ _)); exact BK279.out) hb); have n4_ := Aside0.mk (below_step (by repeat (first | (with_reducible first | exact HB.out | apply below_alloc | apply pw_below_drewN | apply below_drew1 | refine below_set ?_ GE279.out) | exact HB.out)) hb); clear HO_5; clear HO_7; clear HO_13; clear BK279; clear HB; have HO_5 := n0_; have HO_7 := n1_; have HO_13 := n2_; have BK279 := n3_; have HB := n4_; clear n0_ n1_ n2_ n3_ n4_; (try clear hb); (try clear hb2); (try clear hk); (try clear hi)) | (go_at_call 30; (with_reducible refine (impl_Judge.calls t313 t314 t315 t316 t317 t318 _ A77.out).mono ?_); rintro e w' ⟨rfl, ⟨nd, rfl⟩⟩; (try first | exact ⟨rfl, _, World.drewN_drewN _ _ _⟩ | exact ⟨rfl, _, Eq.trans (World.drewN_drewN _ _ _) (congrArg (World.drewN _) (Nat.add_assoc _ _ _))⟩)) | (go_at_call 31; (with_reducible refine (spec_Judge.calls k3 t313 t314 t315 t316 t319 t320 _ A78.out).mono ?_); rintro e w101 ⟨rfl, hb⟩; have n0_ := Aside0.mk (Kd.R_below (by (with_reducible repeat (first | apply Kd.R_alloc | apply Kd.R_drewN | apply Kd.R_drew)); exact HO_5.out) hb); have n1_ := Aside0.mk (Kd.R_below (by (with_reducible repeat (first | apply Kd.R_alloc | apply Kd.R_drewN | apply Kd.R_drew)); exact HO_7.out) hb); have n2_ := Aside0.mk (Kd.R_below (by (with_reducible repeat (first | apply Kd.R_alloc | apply Kd.R_drewN | apply Kd.R_drew)); exact HO_13.out) hb); have n3_ := Aside0.mk (blk_below (g := gb279) (o := .cells #[.int .i64 x280000_3, .int .i64 x280001_3] 45 (0, 0)) (by (with_reducible repeat (first | refine blk_drewN ?_ _ | refine blk_drew ?_ | refine blk_alloc ?_ _)); exact BK279.out) hb); have n4_ := Aside0.mk (below_step (by repeat (first | (with_reducible first | exact HB.out | apply below_alloc | apply pw_below_drewN | apply below_drew1 | refine below_set ?_ GE279.out) | exact HB.out)) hb); clear HO_5; clear HO_7; clear HO_13; clear BK279; clear HB; have HO_5 := n0_; have HO_7 := n1_; have HO_13 := n2_; have BK279 := n3_; have HB := n4_; clear n0_ n1_ n2_ n3_ n4_; (try clear hb); (try clear hb2); (try clear hk); (try clear hi))); go_upto_region 36 with (first | (go_at_call 29; (with_reducible refine (spec_DrawJudge.calls _ _ l0 t313 t314 t315 t316 _ ?side1 ?side2 A76.out).mono ?_); (case side1 => repeat (first | exact (Kd.C_below HR0.out HB.out) | (with_reducible refine Kd.C_alloc ?_ _) | (with_reducible refine Kd.C_drewN ?_ _) | (with_reducible refine Kd.C_drew ?_))); (case side2 => exact HC0.out); rintro e w100 ⟨rfl, hb⟩; have n0_ := Aside0.mk (Kd.R_below (by (with_reducible repeat (first | apply Kd.R_alloc | apply Kd.R_drewN | apply Kd.R_drew)); exact HO_5.out) hb); have n1_ := Aside0.mk (Kd.R_below (by (with_reducible repeat (first | apply Kd.R_alloc | apply Kd.R_drewN | apply Kd.R_drew)); exact HO_7.out) hb); have n2_ := Aside0.mk (Kd.R_below (by (with_reducible repeat (first | apply Kd.R_alloc | apply Kd.R_drewN | apply Kd.R_drew)); exact HO_13.out) hb); have n3_ := Aside0.mk (blk_below (g := gb279) (o := .cells #[.int .i64 x280000_3, .int .i64 x280001_3] 45 (0, 0)) (by (with_reducible repeat (first | refine blk_drewN ?_ _ | refine blk_drew ?_ | refine blk_alloc ?_ _)); exact BK279.out) hb); have n4_ := Aside0.mk (below_step (by repeat (first | (with_reducible first | exact HB.out | apply below_alloc | apply pw_below_drewN | apply below_drew1 | refine below_set ?_ GE279.out) | exact HB.out)) hb); clear HO_5; clear HO_7; clear HO_13; clear BK279; clear HB; have HO_5 := n0_; have HO_7 := n1_; have HO_13 := n2_; have BK279 := n3_; have HB := n4_; clear n0_ n1_ n2_ n3_ n4_; (try clear hb); (try clear hb2); (try clear hk); (try clear hi)) | (go_at_call 30; (with_reducible refine (impl_Judge.calls t313 t314 t315 t316 t317 t318 _ A77.out).mono ?_); rintro e w' ⟨rfl, ⟨nd, rfl⟩⟩; (try first | exact ⟨rfl, _, World.drewN_drewN _ _ _⟩ | exact ⟨rfl, _, Eq.trans (World.drewN_drewN _ _ _) (congrArg (World.drewN _) (Nat.add_assoc _ _ _))⟩)) | (go_at_call 31; (with_reducible refine (spec_Judge.calls k3 t313 t314 t315 t316 t319 t320 _ A78.out).mono ?_); rintro e w101 ⟨rfl, hb⟩; have n0_ := Aside0.mk (Kd.R_below (by (with_reducible repeat (first | apply Kd.R_alloc | apply Kd.R_drewN | apply Kd.R_drew)); exact HO_5.out) hb); have n1_ := Aside0.mk (Kd.R_below (by (with_reducible repeat (first | apply Kd.R_alloc | apply Kd.R_drewN | apply Kd.R_drew)); exact HO_7.out) hb); have n2_ := Aside0.mk (Kd.R_below (by (with_reducible repeat (first | apply Kd.R_alloc | apply Kd.R_drewN | apply Kd.R_drew)); exact HO_13.out) hb); have n3_ := Aside0.mk (blk_below (g := gb279) (o := .cells #[.int .i64 x280000_3, .int .i64 x280001_3] 45 (0, 0)) (by (with_reducible repeat (first | refine blk_drewN ?_ _ | refine blk_drew ?_ | refine blk_alloc ?_ _)); exact BK279.out) hb); have n4_ := Aside0.mk (below_step (by repeat (first | (with_reducible first | exact HB.out | apply below_alloc | apply pw_below_drewN | apply below_drew1 | refine below_set ?_ GE279.out) | exact HB.out)) hb); clear HO_5; clear HO_7; clear HO_13; clear BK279; clear HB; have HO_5 := n0_; have HO_7 := n1_; have HO_13 := n2_; have BK279 := n3_; have HB := n4_; clear n0_ n1_ n2_ n3_ n4_; (try clear hb); (try clear hb2); (try clear hk); (try clear hi))))
                   (try simp only [Act.put, List.setIfInBounds_toArray, List.set_cons_zero, List.set_cons_succ])
                   go_cut [4] (fun v4 wc => ∃ (kq : Nat) (x4_97 : Bool), v4 = .bool x4_97 ∧ Aside0 (laws_FnProbe.j8 kq x4_97 = some r) ∧ Aside0 (kq ≤ k3) ∧ Aside0 (wc.heap[gb279]? = some (.cells #[.int .i64 x280000_3, .int .i64 x280001_3] 45 (0, 0))) ∧ Aside0 (Below w.heap.size w wc))
                   case first => as_aux_lemma =>
                    have H := HC98.out
                    clear HC98
                    by_cases c102 : ((t317 == 1) == (decide ((wrap64 (t313 + t316)) ≤ t315))) = true
                    ·rw [if_pos c102] at H
                     have c102b0 : ((t317 == 1) == (decide ((wrap64 (t313 + t316)) ≤ t315))) = true := c102
                     (try (have c102b1 : decide ((t317 == 1) = (decide ((wrap64 (t313 + t316)) ≤ t315))) = true := by simpa using c102))
                     (try (have c102b2 : ((t317 == 1) == (decide ((wrap64 (t313 + t316)) ≤ t315))) = true := by simpa using c102))
                     clear c102
                     (first | rw [c102b0] | (simp only [i64_w, i32_w]; rw [c102b0]) | skip)
                     by_cases c103 : ((t317 == 2) == (!false)) = true
                     ·rw [if_pos c103] at H
                      have c103b0 : ((t317 == 2) == (!false)) = true := c103
                      (try (have c103b1 : decide ((t317 == 2) = (!false)) = true := by simpa using c103))
                      (try (have c103b2 : ((t317 == 2) == (!false)) = true := by simpa using c103))
                      have es_ : t317 = 2 := by simpa using c103
                      clear c103
                      subst es_
                      have c102b0n : decide ((wrap64 (t313 + t316)) ≤ t315) = false := by simpa using c102b0
                      clear c102b0
                      by_cases c104 : (2 : Int) ≥ 1
                      ·rw [if_pos c104] at H
                       have c104b0 : decide (1 ≤ (2 : Int)) = true := decide_eq_true c104
                       clear c104
                       have H' := Aside0.mk H
                       clear H
                       go_wp2
                       repeat (go_quiet (fail); try go_wp2)
                       go_meet
                       case rel => exact ⟨_, (decide ((2 : Int) ≤ 3)), (by first | rfl | (simp; done) | (simp [*]; done)), H', ⟨by have := HJ2.out; have := HJ11.out; have := HK3.out; first | omega | exact Nat.le_refl _⟩, ⟨by (with_reducible repeat (first | refine blk_drewN ?_ _ | refine blk_drew ?_ | refine blk_alloc ?_ _)); exact BK279.out⟩, ⟨by repeat (first | (with_reducible first | exact HB.out | apply below_alloc | apply pw_below_drewN | apply below_drew1 | refine below_set ?_ GE279.out) | exact HB.out)⟩⟩
                      ·exact absurd (by decide) c104
                     ·rw [if_neg c103] at H
                      have c103b0 : ((t317 == 2) == (!false)) = false := by simpa using c103
                      (try (have c103b1 : decide ((t317 == 2) = (!false)) = false := by simpa using c103))
                      (try (have c103b2 : ((t317 == 2) == (!false)) = false := by simpa using c103))
                      (try (have c103b3 : ¬ ((t317 == 2) = (!false)) := by simpa using c103))
                      have c103b4 : (t317 == 2) = false := by simpa using c103
                      have c103b5 : ¬ t317 = 2 := by simpa using c103
                      have c103b6 : decide (t317 = 2) = false := by simpa using c103
                      clear c103
                      have H' := Aside0.mk H
                      clear H
                      go_wp2
                      repeat (go_quiet (fail); try go_wp2)
                      go_meet
                      case rel => exact ⟨_, (false), (by first | rfl | (simp; done) | (simp [*]; done)), H', ⟨by have := HJ2.out; have := HJ11.out; have := HK3.out; first | omega | exact Nat.le_refl _⟩, ⟨by (with_reducible repeat (first | refine blk_drewN ?_ _ | refine blk_drew ?_ | refine blk_alloc ?_ _)); exact BK279.out⟩, ⟨by repeat (first | (with_reducible first | exact HB.out | apply below_alloc | apply pw_below_drewN | apply below_drew1 | refine below_set ?_ GE279.out) | exact HB.out)⟩⟩
                    ·rw [if_neg c102] at H
                     have c102b0 : ((t317 == 1) == (decide ((wrap64 (t313 + t316)) ≤ t315))) = false := by simpa using c102
                     (try (have c102b1 : decide ((t317 == 1) = (decide ((wrap64 (t313 + t316)) ≤ t315))) = false := by simpa using c102))
                     (try (have c102b2 : ((t317 == 1) == (decide ((wrap64 (t313 + t316)) ≤ t315))) = false := by simpa using c102))
                     (try (have c102b3 : ¬ ((t317 == 1) = (decide ((wrap64 (t313 + t316)) ≤ t315))) := by simpa using c102))
                     clear c102
                     (first | rw [c102b0] | (simp only [i64_w, i32_w]; rw [c102b0]) | skip)
                     have H' := Aside0.mk H
                     clear H
                     go_wp2
                     repeat (go_quiet (fail); try go_wp2)
                     go_meet
                     case rel => exact ⟨_, (false), (by first | rfl | (simp; done) | (simp [*]; done)), H', ⟨by have := HJ2.out; have := HJ11.out; have := HK3.out; first | omega | exact Nat.le_refl _⟩, ⟨by (with_reducible repeat (first | refine blk_drewN ?_ _ | refine blk_drew ?_ | refine blk_alloc ?_ _)); exact BK279.out⟩, ⟨by repeat (first | (with_reducible first | exact HB.out | apply below_alloc | apply pw_below_drewN | apply below_drew1 | refine below_set ?_ GE279.out) | exact HB.out)⟩⟩
                   case rest => as_aux_lemma =>
                    clear HC98
                    try clear c1
                    try clear c2
                    try clear p2
                    try clear q2
                    try clear hx2
                    try clear c3
                    try clear p3
                    try clear q3
                    try clear hx3
                    try clear c4
                    try clear c4b0
                    try clear c4b1
                    try clear c5
                    try clear q5
                    try clear c6
                    try clear p6
                    try clear c7
                    try clear p7
                    try clear q7
                    try clear hx7
                    try clear hf7
                    try clear c8
                    try clear c8b0
                    try clear c9
                    try clear c9b0
                    try clear c10
                    try clear c20
                    try clear c20b0
                    try clear c20b1
                    try clear c22
                    try clear c23
                    try clear c23b0
                    try clear c23b1
                    try clear p27
                    try clear q27
                    try clear hx27
                    try clear p29
                    try clear q29
                    try clear hx29
                    try clear c30
                    try clear p30
                    try clear q30
                    try clear hx30
                    try clear c31
                    try clear c31b0
                    try clear c31b1
                    try clear p31
                    try clear q31
                    try clear hx31
                    try clear c32
                    try clear c32b0
                    try clear c32b1
                    try clear c35
                    try clear c35b0
                    try clear c38
                    try clear c38b0
                    try clear c39
                    try clear c39b0
                    try clear c40
                    try clear c40b0
                    try clear c41
                    try clear c41b0
                    try clear c42
                    try clear c42b0
                    try clear c44
                    try clear c45
                    try clear c45b0
                    try clear c46
                    try clear c46b0
                    try clear c47
                    try clear c47b0
                    try clear c48
                    try clear c48b0
                    try clear c52
                    try clear c52b0
                    try clear c54
                    try clear c54b0
                    try clear c55
                    try clear c55b0
                    try clear q56
                    try clear c57
                    try clear c61
                    try clear c61b0
                    try clear p64
                    try clear c66
                    try clear c66b0
                    try clear c67
                    try clear c67b0
                    try clear c68
                    try clear c68b0
                    try clear c69
                    try clear c69b0
                    try clear p70
                    try clear q70
                    try clear hx70
                    try clear hf70
                    try clear c71
                    try clear c71b0
                    try clear c75
                    try clear c75b0
                    try clear c75b1
                    try clear c79
                    try clear c79b0
                    try clear c79b1
                    try clear c80
                    try clear c80b0
                    try clear c80b1
                    try clear c81
                    try clear c81b0
                    try clear c82
                    try clear c82b0
                    try clear c87
                    try clear c87b0
                    try clear c87b1
                    try clear c87b2
                    try clear c88
                    try clear c88b0
                    try clear c88b1
                    try clear c88b2
                    try clear c89
                    try clear c89b0
                    try clear c94
                    try clear c94b0
                    try clear c94b1
                    try clear c94b2
                    try clear c95
                    try clear c95b0
                    try clear c95b1
                    try clear c95b2
                    try clear c96
                    try clear c96b0
                    try clear c97
                    try clear c97b0
                    try clear c102
                    try clear c102b0
                    try clear c102b1
                    try clear c102b2
                    try clear c103
                    try clear c103b0
                    try clear c103b1
                    try clear c103b2
                    try clear c104
                    try clear c104b0
                    try clear hcz16_0
                    try clear hcz16_1
                    try clear hcz18_0
                    try clear hcz18_1
                    try clear hcz51_0
                    try clear hcz51_1
                    try clear hcz63_0
                    try clear hcz63_1
                    try clear hcz65_0
                    try clear hcz65_1
                    try clear hcz74_0
                    try clear hcz74_1
                    try clear hfz16_0
                    try clear hfz16_1
                    try clear hfz18_0
                    try clear hfz18_1
                    try clear hfz51_0
                    try clear hfz51_1
                    try clear hfz63_0
                    try clear hfz63_1
                    try clear hfz65_0
                    try clear hfz65_1
                    try clear hfz74_0
                    try clear hfz74_1
                    try clear hx278_0
                    try clear hx278_1
                    try clear hx294_0
                    try clear hx295_0
                    try clear hx296_0
                    try clear hx297_0
                    try clear hx298_0
                    try clear hx299_0
                    try clear hx299_1
                    try clear hx301_0
                    try clear hx302_0
                    try clear hx302_1
                    try clear hx304_0
                    try clear hx305_0
                    try clear hx305_1
                    try clear hx307_0
                    try clear hx307_1
                    try clear hx309_0
                    try clear hx311_0
                    try clear hx312_0
                    try clear hx312_1
                    try clear hx70_0
                    try clear p2
                    try clear p27
                    try clear p278
                    try clear p29
                    try clear p294
                    try clear p295
                    try clear p296
                    try clear p297
                    try clear p298
                    try clear p299
                    try clear p3
                    try clear p30
                    try clear p301
                    try clear p302
                    try clear p304
                    try clear p305
                    try clear p307
                    try clear p309
                    try clear p31
                    try clear p311
                    try clear p312
                    try clear p6
                    try clear p64
                    try clear p7
                    try clear p70
                    try clear q2
                    try clear q27
                    try clear q278
                    try clear q29
                    try clear q294
                    try clear q295
                    try clear q296
                    try clear q297
                    try clear q298
                    try clear q299
                    try clear q3
                    try clear q30
                    try clear q301
                    try clear q302
                    try clear q304
                    try clear q305
                    try clear q307
                    try clear q309
                    try clear q31
                    try clear q311
                    try clear q312
                    try clear q5
                    try clear q56
                    try clear q7
                    try clear q70
                    obtain ⟨kq, x4_97, rfl, HA, HJ97, BK279, HB⟩ := hcut
                    cases kq with
                    | zero => exact absurd HA.out (by simp [laws_FnProbe.j8])
                    | succ kj97 =>
                     have H := HA.out
                     clear HA
                     simp only [laws_FnProbe.j8] at H
                     obtain rfl := Option.some.inj H
                     go_wp2
                     repeat (go_quiet (fail); try go_wp2)
                     go_ret
                     exact ⟨by first | rfl | (simp [errW_none, errW_some] <;> rfl) | (simp [*, errW_none, errW_some] <;> rfl), by repeat (first | (with_reducible first | exact HB.out | apply below_alloc | apply pw_below_drewN | apply below_drew1 | refine below_set ?_ GE279.out) | exact HB.out)⟩
                  ·rw [if_neg c97] at H
                   have c97b0 : decide (t314 ≤ (wrap64 (t313 - t316))) = false := decide_eq_false c97
                   clear c97
                   have HC105 := Aside0.mk H
                   clear H
                   obtain ⟨Ao106, co106, eo106⟩ := Kd.R_slice HO_7.out
                   subst eo106
                   go_upto_region 36 with (first | (go_at_call 29; (with_reducible refine (spec_DrawJudge.calls _ _ l0 t313 t314 t315 t316 _ ?side1 ?side2 A76.out).mono ?_); (case side1 => repeat (first | exact (Kd.C_below HR0.out HB.out) | (with_reducible refine Kd.C_alloc ?_ _) | (with_reducible refine Kd.C_drewN ?_ _) | (with_reducible refine Kd.C_drew ?_))); (case side2 => exact HC0.out); rintro e w107 ⟨rfl, hb⟩; have n0_ := Aside0.mk (Kd.R_below (by (with_reducible repeat (first | apply Kd.R_alloc | apply Kd.R_drewN | apply Kd.R_drew)); exact HO_5.out) hb); have n1_ := Aside0.mk (Kd.R_below (by (with_reducible repeat (first | apply Kd.R_alloc | apply Kd.R_drewN | apply Kd.R_drew)); exact HO_7.out) hb); have n2_ := Aside0.mk (Kd.R_below (by (with_reducible repeat (first | apply Kd.R_alloc | apply Kd.R_drewN | apply Kd.R_drew)); exact HO_13.out) hb); have n3_ := Aside0.mk (blk_below (g := gb279) (o := .cells #[.int .i64 x280000_3, .int .i64 x280001_3] 45 (0, 0)) (by (with_reducible repeat (first | refine blk_drewN ?_ _ | refine blk_drew ?_ | refine blk_alloc ?_ _)); exact BK279.out) hb); have n4_ := Aside0.mk (below_step (by repeat (first | (with_reducible first | exact HB.out | apply below_alloc | apply pw_below_drewN | apply below_drew1 | refine below_set ?_ GE279.out) | exact HB.out)) hb); clear HO_5; clear HO_7; clear HO_13; clear BK279; clear HB; have HO_5 := n0_; have HO_7 := n1_; have HO_13 := n2_; have BK279 := n3_; have HB := n4_; clear n0_ n1_ n2_ n3_ n4_; (try clear hb); (try clear hb2); (try clear hk); (try clear hi)) | (go_at_call 30; (with_reducible refine (impl_Judge.calls t313 t314 t315 t316 t317 t318 _ A77.out).mono ?_); rintro e w' ⟨rfl, ⟨nd, rfl⟩⟩; (try first | exact ⟨rfl, _, World.drewN_drewN _ _ _⟩ | exact ⟨rfl, _, Eq.trans (World.drewN_drewN _ _ _) (congrArg (World.drewN _) (Nat.add_assoc _ _ _))⟩)) | (go_at_call 31; (with_reducible refine (spec_Judge.calls k3 t313 t314 t315 t316 t319 t320 _ A78.out).mono ?_); rintro e w108 ⟨rfl, hb⟩; have n0_ := Aside0.mk (Kd.R_below (by (with_reducible repeat (first | apply Kd.R_alloc | apply Kd.R_drewN | apply Kd.R_drew)); exact HO_5.out) hb); have n1_ := Aside0.mk (Kd.R_below (by (with_reducible repeat (first | apply Kd.R_alloc | apply Kd.R_drewN | apply Kd.R_drew)); exact HO_7.out) hb); have n2_ := Aside0.mk (Kd.R_below (by (with_reducible repeat (first | apply Kd.R_alloc | apply Kd.R_drewN | apply Kd.R_drew)); exact HO_13.out) hb); have n3_ := Aside0.mk (blk_below (g := gb279) (o := .cells #[.int .i64 x280000_3, .int .i64 x280001_3] 45 (0, 0)) (by (with_reducible repeat (first | refine blk_drewN ?_ _ | refine blk_drew ?_ | refine blk_alloc ?_ _)); exact BK279.out) hb); have n4_ := Aside0.mk (below_step (by repeat (first | (with_reducible first | exact HB.out | apply below_alloc | apply pw_below_drewN | apply below_drew1 | refine below_set ?_ GE279.out) | exact HB.out)) hb); clear HO_5; clear HO_7; clear HO_13; clear BK279; clear HB; have HO_5 := n0_; have HO_7 := n1_; have HO_13 := n2_; have BK279 := n3_; have HB := n4_; clear n0_ n1_ n2_ n3_ n4_; (try clear hb); (try clear hb2); (try clear hk); (try clear hi)))
                   repeat (go_quiet (first | (go_at_call 29; (with_reducible refine (spec_DrawJudge.calls _ _ l0 t313 t314 t315 t316 _ ?side1 ?side2 A76.out).mono ?_); (case side1 => repeat (first | exact (Kd.C_below HR0.out HB.out) | (with_reducible refine Kd.C_alloc ?_ _) | (with_reducible refine Kd.C_drewN ?_ _) | (with_reducible refine Kd.C_drew ?_))); (case side2 => exact HC0.out); rintro e w107 ⟨rfl, hb⟩; have n0_ := Aside0.mk (Kd.R_below (by (with_reducible repeat (first | apply Kd.R_alloc | apply Kd.R_drewN | apply Kd.R_drew)); exact HO_5.out) hb); have n1_ := Aside0.mk (Kd.R_below (by (with_reducible repeat (first | apply Kd.R_alloc | apply Kd.R_drewN | apply Kd.R_drew)); exact HO_7.out) hb); have n2_ := Aside0.mk (Kd.R_below (by (with_reducible repeat (first | apply Kd.R_alloc | apply Kd.R_drewN | apply Kd.R_drew)); exact HO_13.out) hb); have n3_ := Aside0.mk (blk_below (g := gb279) (o := .cells #[.int .i64 x280000_3, .int .i64 x280001_3] 45 (0, 0)) (by (with_reducible repeat (first | refine blk_drewN ?_ _ | refine blk_drew ?_ | refine blk_alloc ?_ _)); exact BK279.out) hb); have n4_ := Aside0.mk (below_step (by repeat (first | (with_reducible first | exact HB.out | apply below_alloc | apply pw_below_drewN | apply below_drew1 | refine below_set ?_ GE279.out) | exact HB.out)) hb); clear HO_5; clear HO_7; clear HO_13; clear BK279; clear HB; have HO_5 := n0_; have HO_7 := n1_; have HO_13 := n2_; have BK279 := n3_; have HB := n4_; clear n0_ n1_ n2_ n3_ n4_; (try clear hb); (try clear hb2); (try clear hk); (try clear hi)) | (go_at_call 30; (with_reducible refine (impl_Judge.calls t313 t314 t315 t316 t317 t318 _ A77.out).mono ?_); rintro e w' ⟨rfl, ⟨nd, rfl⟩⟩; (try first | exact ⟨rfl, _, World.drewN_drewN _ _ _⟩ | exact ⟨rfl, _, Eq.trans (World.drewN_drewN _ _ _) (congrArg (World.drewN _) (Nat.add_assoc _ _ _))⟩)) | (go_at_call 31; (with_reducible refine (spec_Judge.calls k3 t313 t314 t315 t316 t319 t320 _ A78.out).mono ?_); rintro e w108 ⟨rfl, hb⟩; have n0_ := Aside0.mk (Kd.R_below (by (with_reducible repeat (first | apply Kd.R_alloc | apply Kd.R_drewN | apply Kd.R_drew)); exact HO_5.out) hb); have n1_ := Aside0.mk (Kd.R_below (by (with_reducible repeat (first | apply Kd.R_alloc | apply Kd.R_drewN | apply Kd.R_drew)); exact HO_7.out) hb); have n2_ := Aside0.mk (Kd.R_below (by (with_reducible repeat (first | apply Kd.R_alloc | apply Kd.R_drewN | apply Kd.R_drew)); exact HO_13.out) hb); have n3_ := Aside0.mk (blk_below (g := gb279) (o := .cells #[.int .i64 x280000_3, .int .i64 x280001_3] 45 (0, 0)) (by (with_reducible repeat (first | refine blk_drewN ?_ _ | refine blk_drew ?_ | refine blk_alloc ?_ _)); exact BK279.out) hb); have n4_ := Aside0.mk (below_step (by repeat (first | (with_reducible first | exact HB.out | apply below_alloc | apply pw_below_drewN | apply below_drew1 | refine below_set ?_ GE279.out) | exact HB.out)) hb); clear HO_5; clear HO_7; clear HO_13; clear BK279; clear HB; have HO_5 := n0_; have HO_7 := n1_; have HO_13 := n2_; have BK279 := n3_; have HB := n4_; clear n0_ n1_ n2_ n3_ n4_; (try clear hb); (try clear hb2); (try clear hk); (try clear hi))); go_upto_region 36 with (first | (go_at_call 29; (with_reducible refine (spec_DrawJudge.calls _ _ l0 t313 t314 t315 t316 _ ?side1 ?side2 A76.out).mono ?_); (case side1 => repeat (first | exact (Kd.C_below HR0.out HB.out) | (with_reducible refine Kd.C_alloc ?_ _) | (with_reducible refine Kd.C_drewN ?_ _) | (with_reducible refine Kd.C_drew ?_))); (case side2 => exact HC0.out); rintro e w107 ⟨rfl, hb⟩; have n0_ := Aside0.mk (Kd.R_below (by (with_reducible repeat (first | apply Kd.R_alloc | apply Kd.R_drewN | apply Kd.R_drew)); exact HO_5.out) hb); have n1_ := Aside0.mk (Kd.R_below (by (with_reducible repeat (first | apply Kd.R_alloc | apply Kd.R_drewN | apply Kd.R_drew)); exact HO_7.out) hb); have n2_ := Aside0.mk (Kd.R_below (by (with_reducible repeat (first | apply Kd.R_alloc | apply Kd.R_drewN | apply Kd.R_drew)); exact HO_13.out) hb); have n3_ := Aside0.mk (blk_below (g := gb279) (o := .cells #[.int .i64 x280000_3, .int .i64 x280001_3] 45 (0, 0)) (by (with_reducible repeat (first | refine blk_drewN ?_ _ | refine blk_drew ?_ | refine blk_alloc ?_ _)); exact BK279.out) hb); have n4_ := Aside0.mk (below_step (by repeat (first | (with_reducible first | exact HB.out | apply below_alloc | apply pw_below_drewN | apply below_drew1 | refine below_set ?_ GE279.out) | exact HB.out)) hb); clear HO_5; clear HO_7; clear HO_13; clear BK279; clear HB; have HO_5 := n0_; have HO_7 := n1_; have HO_13 := n2_; have BK279 := n3_; have HB := n4_; clear n0_ n1_ n2_ n3_ n4_; (try clear hb); (try clear hb2); (try clear hk); (try clear hi)) | (go_at_call 30; (with_reducible refine (impl_Judge.calls t313 t314 t315 t316 t317 t318 _ A77.out).mono ?_); rintro e w' ⟨rfl, ⟨nd, rfl⟩⟩; (try first | exact ⟨rfl, _, World.drewN_drewN _ _ _⟩ | exact ⟨rfl, _, Eq.trans (World.drewN_drewN _ _ _) (congrArg (World.drewN _) (Nat.add_assoc _ _ _))⟩)) | (go_at_call 31; (with_reducible refine (spec_Judge.calls k3 t313 t314 t315 t316 t319 t320 _ A78.out).mono ?_); rintro e w108 ⟨rfl, hb⟩; have n0_ := Aside0.mk (Kd.R_below (by (with_reducible repeat (first | apply Kd.R_alloc | apply Kd.R_drewN | apply Kd.R_drew)); exact HO_5.out) hb); have n1_ := Aside0.mk (Kd.R_below (by (with_reducible repeat (first | apply Kd.R_alloc | apply Kd.R_drewN | apply Kd.R_drew)); exact HO_7.out) hb); have n2_ := Aside0.mk (Kd.R_below (by (with_reducible repeat (first | apply Kd.R_alloc | apply Kd.R_drewN | apply Kd.R_drew)); exact HO_13.out) hb); have n3_ := Aside0.mk (blk_below (g := gb279) (o := .cells #[.int .i64 x280000_3, .int .i64 x280001_3] 45 (0, 0)) (by (with_reducible repeat (first | refine blk_drewN ?_ _ | refine blk_drew ?_ | refine blk_alloc ?_ _)); exact BK279.out) hb); have n4_ := Aside0.mk (below_step (by repeat (first | (with_reducible first | exact HB.out | apply below_alloc | apply pw_below_drewN | apply below_drew1 | refine below_set ?_ GE279.out) | exact HB.out)) hb); clear HO_5; clear HO_7; clear HO_13; clear BK279; clear HB; have HO_5 := n0_; have HO_7 := n1_; have HO_13 := n2_; have BK279 := n3_; have HB := n4_; clear n0_ n1_ n2_ n3_ n4_; (try clear hb); (try clear hb2); (try clear hk); (try clear hi))))
                   (try simp only [Act.put, List.setIfInBounds_toArray, List.set_cons_zero, List.set_cons_succ])
                   go_cut [4] (fun v4 wc => ∃ (kq : Nat) (x4_104 : Bool), v4 = .bool x4_104 ∧ Aside0 (laws_FnProbe.j9 kq x4_104 = some r) ∧ Aside0 (kq ≤ k3) ∧ Aside0 (wc.heap[gb279]? = some (.cells #[.int .i64 x280000_3, .int .i64 x280001_3] 45 (0, 0))) ∧ Aside0 (Below w.heap.size w wc))
                   case first => as_aux_lemma =>
                    have H := HC105.out
                    clear HC105
                    by_cases c109 : ((t317 == 1) == false) = true
                    ·rw [if_pos c109] at H
                     have c109b0 : ((t317 == 1) == false) = true := c109
                     (try (have c109b1 : decide ((t317 == 1) = false) = true := by simpa using c109))
                     (try (have c109b2 : ((t317 == 1) == false) = true := by simpa using c109))
                     clear c109
                     (first | rw [c109b0] | (simp only [i64_w, i32_w]; rw [c109b0]) | skip)
                     by_cases c110 : ((t317 == 2) == (!false)) = true
                     ·rw [if_pos c110] at H
                      have c110b0 : ((t317 == 2) == (!false)) = true := c110
                      (try (have c110b1 : decide ((t317 == 2) = (!false)) = true := by simpa using c110))
                      (try (have c110b2 : ((t317 == 2) == (!false)) = true := by simpa using c110))
                      have es_ : t317 = 2 := by simpa using c110
                      clear c110
                      subst es_
                      by_cases c111 : (2 : Int) ≥ 1
                      ·rw [if_pos c111] at H
                       have c111b0 : decide (1 ≤ (2 : Int)) = true := decide_eq_true c111
                       clear c111
                       have H' := Aside0.mk H
                       clear H
                       go_wp2
                       repeat (go_quiet (fail); try go_wp2)
                       go_meet
                       case rel => exact ⟨_, (decide ((2 : Int) ≤ 3)), (by first | rfl | (simp; done) | (simp [*]; done)), H', ⟨by have := HJ2.out; have := HJ11.out; have := HK3.out; first | omega | exact Nat.le_refl _⟩, ⟨by (with_reducible repeat (first | refine blk_drewN ?_ _ | refine blk_drew ?_ | refine blk_alloc ?_ _)); exact BK279.out⟩, ⟨by repeat (first | (with_reducible first | exact HB.out | apply below_alloc | apply pw_below_drewN | apply below_drew1 | refine below_set ?_ GE279.out) | exact HB.out)⟩⟩
                      ·exact absurd (by decide) c111
                     ·rw [if_neg c110] at H
                      have c110b0 : ((t317 == 2) == (!false)) = false := by simpa using c110
                      (try (have c110b1 : decide ((t317 == 2) = (!false)) = false := by simpa using c110))
                      (try (have c110b2 : ((t317 == 2) == (!false)) = false := by simpa using c110))
                      (try (have c110b3 : ¬ ((t317 == 2) = (!false)) := by simpa using c110))
                      have c110b4 : (t317 == 2) = false := by simpa using c110
                      have c110b5 : ¬ t317 = 2 := by simpa using c110
                      have c110b6 : decide (t317 = 2) = false := by simpa using c110
                      clear c110
                      have H' := Aside0.mk H
                      clear H
                      go_wp2
                      repeat (go_quiet (fail); try go_wp2)
                      go_meet
                      case rel => exact ⟨_, (false), (by first | rfl | (simp; done) | (simp [*]; done)), H', ⟨by have := HJ2.out; have := HJ11.out; have := HK3.out; first | omega | exact Nat.le_refl _⟩, ⟨by (with_reducible repeat (first | refine blk_drewN ?_ _ | refine blk_drew ?_ | refine blk_alloc ?_ _)); exact BK279.out⟩, ⟨by repeat (first | (with_reducible first | exact HB.out | apply below_alloc | apply pw_below_drewN | apply below_drew1 | refine below_set ?_ GE279.out) | exact HB.out)⟩⟩
                    ·rw [if_neg c109] at H
                     have c109b0 : ((t317 == 1) == false) = false := by simpa using c109
                     (try (have c109b1 : decide ((t317 == 1) = false) = false := by simpa using c109))
                     (try (have c109b2 : ((t317 == 1) == false) = false := by simpa using c109))
                     (try (have c109b3 : ¬ ((t317 == 1) = false) := by simpa using c109))
                     clear c109
                     (first | rw [c109b0] | (simp only [i64_w, i32_w]; rw [c109b0]) | skip)
                     have H' := Aside0.mk H
                     clear H
                     go_wp2
                     repeat (go_quiet (fail); try go_wp2)
                     go_meet
                     case rel => exact ⟨_, (false), (by first | rfl | (simp; done) | (simp [*]; done)), H', ⟨by have := HJ2.out; have := HJ11.out; have := HK3.out; first | omega | exact Nat.le_refl _⟩, ⟨by (with_reducible repeat (first | refine blk_drewN ?_ _ | refine blk_drew ?_ | refine blk_alloc ?_ _)); exact BK279.out⟩, ⟨by repeat (first | (with_reducible first | exact HB.out | apply below_alloc | apply pw_below_drewN | apply below_drew1 | refine below_set ?_ GE279.out) | exact HB.out)⟩⟩
                   case rest => as_aux_lemma =>
                    clear HC105
                    try clear c1
                    try clear c2
                    try clear p2
                    try clear q2
                    try clear hx2
                    try clear c3
                    try clear p3
                    try clear q3
                    try clear hx3
                    try clear c4
                    try clear c4b0
                    try clear c4b1
                    try clear c5
                    try clear q5
                    try clear c6
                    try clear p6
                    try clear c7
                    try clear p7
                    try clear q7
                    try clear hx7
                    try clear hf7
                    try clear c8
                    try clear c8b0
                    try clear c9
                    try clear c9b0
                    try clear c10
                    try clear c11
                    try clear c20
                    try clear c20b0
                    try clear c20b1
                    try clear c22
                    try clear c23
                    try clear c23b0
                    try clear c23b1
                    try clear p27
                    try clear q27
                    try clear hx27
                    try clear p29
                    try clear q29
                    try clear hx29
                    try clear c30
                    try clear p30
                    try clear q30
                    try clear hx30
                    try clear c31
                    try clear c31b0
                    try clear c31b1
                    try clear p31
                    try clear q31
                    try clear hx31
                    try clear c32
                    try clear c32b0
                    try clear c32b1
                    try clear c35
                    try clear c35b0
                    try clear c38
                    try clear c38b0
                    try clear c39
                    try clear c39b0
                    try clear c40
                    try clear c40b0
                    try clear c41
                    try clear c41b0
                    try clear c42
                    try clear c42b0
                    try clear c44
                    try clear c45
                    try clear c45b0
                    try clear c46
                    try clear c46b0
                    try clear c47
                    try clear c47b0
                    try clear c48
                    try clear c48b0
                    try clear c52
                    try clear c52b0
                    try clear c54
                    try clear c54b0
                    try clear c55
                    try clear c55b0
                    try clear q56
                    try clear c57
                    try clear c61
                    try clear c61b0
                    try clear p64
                    try clear c66
                    try clear c66b0
                    try clear c67
                    try clear c67b0
                    try clear c68
                    try clear c68b0
                    try clear c69
                    try clear c69b0
                    try clear p70
                    try clear q70
                    try clear hx70
                    try clear hf70
                    try clear c71
                    try clear c71b0
                    try clear c75
                    try clear c75b0
                    try clear c75b1
                    try clear c79
                    try clear c79b0
                    try clear c79b1
                    try clear c80
                    try clear c80b0
                    try clear c80b1
                    try clear c81
                    try clear c81b0
                    try clear c82
                    try clear c82b0
                    try clear c87
                    try clear c87b0
                    try clear c87b1
                    try clear c87b2
                    try clear c88
                    try clear c88b0
                    try clear c88b1
                    try clear c88b2
                    try clear c89
                    try clear c89b0
                    try clear c94
                    try clear c94b0
                    try clear c94b1
                    try clear c94b2
                    try clear c95
                    try clear c95b0
                    try clear c95b1
                    try clear c95b2
                    try clear c96
                    try clear c96b0
                    try clear c97
                    try clear c97b0
                    try clear c102
                    try clear c102b0
                    try clear c102b1
                    try clear c102b2
                    try clear c103
                    try clear c103b0
                    try clear c103b1
                    try clear c103b2
                    try clear c104
                    try clear c104b0
                    try clear c109
                    try clear c109b0
                    try clear c109b1
                    try clear c109b2
                    try clear c110
                    try clear c110b0
                    try clear c110b1
                    try clear c110b2
                    try clear c111
                    try clear c111b0
                    try clear hcz16_0
                    try clear hcz16_1
                    try clear hcz18_0
                    try clear hcz18_1
                    try clear hcz51_0
                    try clear hcz51_1
                    try clear hcz63_0
                    try clear hcz63_1
                    try clear hcz65_0
                    try clear hcz65_1
                    try clear hcz74_0
                    try clear hcz74_1
                    try clear hfz16_0
                    try clear hfz16_1
                    try clear hfz18_0
                    try clear hfz18_1
                    try clear hfz51_0
                    try clear hfz51_1
                    try clear hfz63_0
                    try clear hfz63_1
                    try clear hfz65_0
                    try clear hfz65_1
                    try clear hfz74_0
                    try clear hfz74_1
                    try clear hx278_0
                    try clear hx278_1
                    try clear hx294_0
                    try clear hx295_0
                    try clear hx296_0
                    try clear hx297_0
                    try clear hx298_0
                    try clear hx299_0
                    try clear hx299_1
                    try clear hx301_0
                    try clear hx302_0
                    try clear hx302_1
                    try clear hx304_0
                    try clear hx305_0
                    try clear hx305_1
                    try clear hx307_0
                    try clear hx307_1
                    try clear hx309_0
                    try clear hx311_0
                    try clear hx312_0
                    try clear hx312_1
                    try clear hx70_0
                    try clear p2
                    try clear p27
                    try clear p278
                    try clear p29
                    try clear p294
                    try clear p295
                    try clear p296
                    try clear p297
                    try clear p298
                    try clear p299
                    try clear p3
                    try clear p30
                    try clear p301
                    try clear p302
                    try clear p304
                    try clear p305
                    try clear p307
                    try clear p309
                    try clear p31
                    try clear p311
                    try clear p312
                    try clear p6
                    try clear p64
                    try clear p7
                    try clear p70
                    try clear q2
                    try clear q27
                    try clear q278
                    try clear q29
                    try clear q294
                    try clear q295
                    try clear q296
                    try clear q297
                    try clear q298
                    try clear q299
                    try clear q3
                    try clear q30
                    try clear q301
                    try clear q302
                    try clear q304
                    try clear q305
                    try clear q307
                    try clear q309
                    try clear q31
                    try clear q311
                    try clear q312
                    try clear q5
                    try clear q56
                    try clear q7
                    try clear q70
                    obtain ⟨kq, x4_104, rfl, HA, HJ104, BK279, HB⟩ := hcut
                    cases kq with
                    | zero => exact absurd HA.out (by simp [laws_FnProbe.j9])
                    | succ kj104 =>
                     have H := HA.out
                     clear HA
                     simp only [laws_FnProbe.j9] at H
                     obtain rfl := Option.some.inj H
                     go_wp2
                     repeat (go_quiet (fail); try go_wp2)
                     go_ret
                     exact ⟨by first | rfl | (simp [errW_none, errW_some] <;> rfl) | (simp [*, errW_none, errW_some] <;> rfl), by repeat (first | (with_reducible first | exact HB.out | apply below_alloc | apply pw_below_drewN | apply below_drew1 | refine below_set ?_ GE279.out) | exact HB.out)⟩
                ·rw [if_neg c80] at H
                 have c80b0 : (t318 == 0) = false := beq_eq_false_iff_ne.mpr c80
                 have c80b1 : (t318 != 0) = true := bne_iff_ne.mpr c80
                 obtain rfl := Option.some.inj H
                 obtain ⟨Ao112, co112, eo112⟩ := Kd.R_slice HO_7.out
                 subst eo112
                 go_wp2_with (first | (go_at_call 29; (with_reducible refine (spec_DrawJudge.calls _ _ l0 t313 t314 t315 t316 _ ?side1 ?side2 A76.out).mono ?_); (case side1 => repeat (first | exact (Kd.C_below HR0.out HB.out) | (with_reducible refine Kd.C_alloc ?_ _) | (with_reducible refine Kd.C_drewN ?_ _) | (with_reducible refine Kd.C_drew ?_))); (case side2 => exact HC0.out); rintro e w113 ⟨rfl, hb⟩; have n0_ := Aside0.mk (Kd.R_below (by (with_reducible repeat (first | apply Kd.R_alloc | apply Kd.R_drewN | apply Kd.R_drew)); exact HO_5.out) hb); have n1_ := Aside0.mk (Kd.R_below (by (with_reducible repeat (first | apply Kd.R_alloc | apply Kd.R_drewN | apply Kd.R_drew)); exact HO_7.out) hb); have n2_ := Aside0.mk (Kd.R_below (by (with_reducible repeat (first | apply Kd.R_alloc | apply Kd.R_drewN | apply Kd.R_drew)); exact HO_13.out) hb); have n3_ := Aside0.mk (blk_below (g := gb279) (o := .cells #[.int .i64 x280000_3, .int .i64 x280001_3] 45 (0, 0)) (by (with_reducible repeat (first | refine blk_drewN ?_ _ | refine blk_drew ?_ | refine blk_alloc ?_ _)); exact BK279.out) hb); have n4_ := Aside0.mk (below_step (by repeat (first | (with_reducible first | exact HB.out | apply below_alloc | apply pw_below_drewN | apply below_drew1 | refine below_set ?_ GE279.out) | exact HB.out)) hb); clear HO_5; clear HO_7; clear HO_13; clear BK279; clear HB; have HO_5 := n0_; have HO_7 := n1_; have HO_13 := n2_; have BK279 := n3_; have HB := n4_; clear n0_ n1_ n2_ n3_ n4_; (try clear hb); (try clear hb2); (try clear hk); (try clear hi)) | (go_at_call 30; (with_reducible refine (impl_Judge.calls t313 t314 t315 t316 t317 t318 _ A77.out).mono ?_); rintro e w' ⟨rfl, ⟨nd, rfl⟩⟩; (try first | exact ⟨rfl, _, World.drewN_drewN _ _ _⟩ | exact ⟨rfl, _, Eq.trans (World.drewN_drewN _ _ _) (congrArg (World.drewN _) (Nat.add_assoc _ _ _))⟩)) | (go_at_call 31; (with_reducible refine (spec_Judge.calls k3 t313 t314 t315 t316 t319 t320 _ A78.out).mono ?_); rintro e w114 ⟨rfl, hb⟩; have n0_ := Aside0.mk (Kd.R_below (by (with_reducible repeat (first | apply Kd.R_alloc | apply Kd.R_drewN | apply Kd.R_drew)); exact HO_5.out) hb); have n1_ := Aside0.mk (Kd.R_below (by (with_reducible repeat (first | apply Kd.R_alloc | apply Kd.R_drewN | apply Kd.R_drew)); exact HO_7.out) hb); have n2_ := Aside0.mk (Kd.R_below (by (with_reducible repeat (first | apply Kd.R_alloc | apply Kd.R_drewN | apply Kd.R_drew)); exact HO_13.out) hb); have n3_ := Aside0.mk (blk_below (g := gb279) (o := .cells #[.int .i64 x280000_3, .int .i64 x280001_3] 45 (0, 0)) (by (with_reducible repeat (first | refine blk_drewN ?_ _ | refine blk_drew ?_ | refine blk_alloc ?_ _)); exact BK279.out) hb); have n4_ := Aside0.mk (below_step (by repeat (first | (with_reducible first | exact HB.out | apply below_alloc | apply pw_below_drewN | apply below_drew1 | refine below_set ?_ GE279.out) | exact HB.out)) hb); clear HO_5; clear HO_7; clear HO_13; clear BK279; clear HB; have HO_5 := n0_; have HO_7 := n1_; have HO_13 := n2_; have BK279 := n3_; have HB := n4_; clear n0_ n1_ n2_ n3_ n4_; (try clear hb); (try clear hb2); (try clear hk); (try clear hi)))
                 repeat (go_quiet (first | (go_at_call 29; (with_reducible refine (spec_DrawJudge.calls _ _ l0 t313 t314 t315 t316 _ ?side1 ?side2 A76.out).mono ?_); (case side1 => repeat (first | exact (Kd.C_below HR0.out HB.out) | (with_reducible refine Kd.C_alloc ?_ _) | (with_reducible refine Kd.C_drewN ?_ _) | (with_reducible refine Kd.C_drew ?_))); (case side2 => exact HC0.out); rintro e w113 ⟨rfl, hb⟩; have n0_ := Aside0.mk (Kd.R_below (by (with_reducible repeat (first | apply Kd.R_alloc | apply Kd.R_drewN | apply Kd.R_drew)); exact HO_5.out) hb); have n1_ := Aside0.mk (Kd.R_below (by (with_reducible repeat (first | apply Kd.R_alloc | apply Kd.R_drewN | apply Kd.R_drew)); exact HO_7.out) hb); have n2_ := Aside0.mk (Kd.R_below (by (with_reducible repeat (first | apply Kd.R_alloc | apply Kd.R_drewN | apply Kd.R_drew)); exact HO_13.out) hb); have n3_ := Aside0.mk (blk_below (g := gb279) (o := .cells #[.int .i64 x280000_3, .int .i64 x280001_3] 45 (0, 0)) (by (with_reducible repeat (first | refine blk_drewN ?_ _ | refine blk_drew ?_ | refine blk_alloc ?_ _)); exact BK279.out) hb); have n4_ := Aside0.mk (below_step (by repeat (first | (with_reducible first | exact HB.out | apply below_alloc | apply pw_below_drewN | apply below_drew1 | refine below_set ?_ GE279.out) | exact HB.out)) hb); clear HO_5; clear HO_7; clear HO_13; clear BK279; clear HB; have HO_5 := n0_; have HO_7 := n1_; have HO_13 := n2_; have BK279 := n3_; have HB := n4_; clear n0_ n1_ n2_ n3_ n4_; (try clear hb); (try clear hb2); (try clear hk); (try clear hi)) | (go_at_call 30; (with_reducible refine (impl_Judge.calls t313 t314 t315 t316 t317 t318 _ A77.out).mono ?_); rintro e w' ⟨rfl, ⟨nd, rfl⟩⟩; (try first | exact ⟨rfl, _, World.drewN_drewN _ _ _⟩ | exact ⟨rfl, _, Eq.trans (World.drewN_drewN _ _ _) (congrArg (World.drewN _) (Nat.add_assoc _ _ _))⟩)) | (go_at_call 31; (with_reducible refine (spec_Judge.calls k3 t313 t314 t315 t316 t319 t320 _ A78.out).mono ?_); rintro e w114 ⟨rfl, hb⟩; have n0_ := Aside0.mk (Kd.R_below (by (with_reducible repeat (first | apply Kd.R_alloc | apply Kd.R_drewN | apply Kd.R_drew)); exact HO_5.out) hb); have n1_ := Aside0.mk (Kd.R_below (by (with_reducible repeat (first | apply Kd.R_alloc | apply Kd.R_drewN | apply Kd.R_drew)); exact HO_7.out) hb); have n2_ := Aside0.mk (Kd.R_below (by (with_reducible repeat (first | apply Kd.R_alloc | apply Kd.R_drewN | apply Kd.R_drew)); exact HO_13.out) hb); have n3_ := Aside0.mk (blk_below (g := gb279) (o := .cells #[.int .i64 x280000_3, .int .i64 x280001_3] 45 (0, 0)) (by (with_reducible repeat (first | refine blk_drewN ?_ _ | refine blk_drew ?_ | refine blk_alloc ?_ _)); exact BK279.out) hb); have n4_ := Aside0.mk (below_step (by repeat (first | (with_reducible first | exact HB.out | apply below_alloc | apply pw_below_drewN | apply below_drew1 | refine below_set ?_ GE279.out) | exact HB.out)) hb); clear HO_5; clear HO_7; clear HO_13; clear BK279; clear HB; have HO_5 := n0_; have HO_7 := n1_; have HO_13 := n2_; have BK279 := n3_; have HB := n4_; clear n0_ n1_ n2_ n3_ n4_; (try clear hb); (try clear hb2); (try clear hk); (try clear hi))); try go_wp2_with (first | (go_at_call 29; (with_reducible refine (spec_DrawJudge.calls _ _ l0 t313 t314 t315 t316 _ ?side1 ?side2 A76.out).mono ?_); (case side1 => repeat (first | exact (Kd.C_below HR0.out HB.out) | (with_reducible refine Kd.C_alloc ?_ _) | (with_reducible refine Kd.C_drewN ?_ _) | (with_reducible refine Kd.C_drew ?_))); (case side2 => exact HC0.out); rintro e w113 ⟨rfl, hb⟩; have n0_ := Aside0.mk (Kd.R_below (by (with_reducible repeat (first | apply Kd.R_alloc | apply Kd.R_drewN | apply Kd.R_drew)); exact HO_5.out) hb); have n1_ := Aside0.mk (Kd.R_below (by (with_reducible repeat (first | apply Kd.R_alloc | apply Kd.R_drewN | apply Kd.R_drew)); exact HO_7.out) hb); have n2_ := Aside0.mk (Kd.R_below (by (with_reducible repeat (first | apply Kd.R_alloc | apply Kd.R_drewN | apply Kd.R_drew)); exact HO_13.out) hb); have n3_ := Aside0.mk (blk_below (g := gb279) (o := .cells #[.int .i64 x280000_3, .int .i64 x280001_3] 45 (0, 0)) (by (with_reducible repeat (first | refine blk_drewN ?_ _ | refine blk_drew ?_ | refine blk_alloc ?_ _)); exact BK279.out) hb); have n4_ := Aside0.mk (below_step (by repeat (first | (with_reducible first | exact HB.out | apply below_alloc | apply pw_below_drewN | apply below_drew1 | refine below_set ?_ GE279.out) | exact HB.out)) hb); clear HO_5; clear HO_7; clear HO_13; clear BK279; clear HB; have HO_5 := n0_; have HO_7 := n1_; have HO_13 := n2_; have BK279 := n3_; have HB := n4_; clear n0_ n1_ n2_ n3_ n4_; (try clear hb); (try clear hb2); (try clear hk); (try clear hi)) | (go_at_call 30; (with_reducible refine (impl_Judge.calls t313 t314 t315 t316 t317 t318 _ A77.out).mono ?_); rintro e w' ⟨rfl, ⟨nd, rfl⟩⟩; (try first | exact ⟨rfl, _, World.drewN_drewN _ _ _⟩ | exact ⟨rfl, _, Eq.trans (World.drewN_drewN _ _ _) (congrArg (World.drewN _) (Nat.add_assoc _ _ _))⟩)) | (go_at_call 31; (with_reducible refine (spec_Judge.calls k3 t313 t314 t315 t316 t319 t320 _ A78.out).mono ?_); rintro e w114 ⟨rfl, hb⟩; have n0_ := Aside0.mk (Kd.R_below (by (with_reducible repeat (first | apply Kd.R_alloc | apply Kd.R_drewN | apply Kd.R_drew)); exact HO_5.out) hb); have n1_ := Aside0.mk (Kd.R_below (by (with_reducible repeat (first | apply Kd.R_alloc | apply Kd.R_drewN | apply Kd.R_drew)); exact HO_7.out) hb); have n2_ := Aside0.mk (Kd.R_below (by (with_reducible repeat (first | apply Kd.R_alloc | apply Kd.R_drewN | apply Kd.R_drew)); exact HO_13.out) hb); have n3_ := Aside0.mk (blk_below (g := gb279) (o := .cells #[.int .i64 x280000_3, .int .i64 x280001_3] 45 (0, 0)) (by (with_reducible repeat (first | refine blk_drewN ?_ _ | refine blk_drew ?_ | refine blk_alloc ?_ _)); exact BK279.out) hb); have n4_ := Aside0.mk (below_step (by repeat (first | (with_reducible first | exact HB.out | apply below_alloc | apply pw_below_drewN | apply below_drew1 | refine below_set ?_ GE279.out) | exact HB.out)) hb); clear HO_5; clear HO_7; clear HO_13; clear BK279; clear HB; have HO_5 := n0_; have HO_7 := n1_; have HO_13 := n2_; have BK279 := n3_; have HB := n4_; clear n0_ n1_ n2_ n3_ n4_; (try clear hb); (try clear hb2); (try clear hk); (try clear hi))))
                 go_ret
                 exact ⟨by first | rfl | (simp [errW_none, errW_some] <;> rfl) | (simp [*, errW_none, errW_some] <;> rfl), by repeat (first | (with_reducible first | exact HB.out | apply below_alloc | apply pw_below_drewN | apply below_drew1 | refine below_set ?_ GE279.out) | exact HB.out)⟩
               ·rw [if_neg c79] at H
                have c79b0 : (t318 == t320) = false := beq_eq_false_iff_ne.mpr c79
                have c79b1 : (t318 != t320) = true := bne_iff_ne.mpr c79
                obtain rfl := Option.some.inj H
                obtain ⟨Ao115, co115, eo115⟩ := Kd.R_slice HO_7.out
                subst eo115
                go_wp2_with (first | (go_at_call 29; (with_reducible refine (spec_DrawJudge.calls _ _ l0 t313 t314 t315 t316 _ ?side1 ?side2 A76.out).mono ?_); (case side1 => repeat (first | exact (Kd.C_below HR0.out HB.out) | (with_reducible refine Kd.C_alloc ?_ _) | (with_reducible refine Kd.C_drewN ?_ _) | (with_reducible refine Kd.C_drew ?_))); (case side2 => exact HC0.out); rintro e w116 ⟨rfl, hb⟩; have n0_ := Aside0.mk (Kd.R_below (by (with_reducible repeat (first | apply Kd.R_alloc | apply Kd.R_drewN | apply Kd.R_drew)); exact HO_5.out) hb); have n1_ := Aside0.mk (Kd.R_below (by (with_reducible repeat (first | apply Kd.R_alloc | apply Kd.R_drewN | apply Kd.R_drew)); exact HO_7.out) hb); have n2_ := Aside0.mk (Kd.R_below (by (with_reducible repeat (first | apply Kd.R_alloc | apply Kd.R_drewN | apply Kd.R_drew)); exact HO_13.out) hb); have n3_ := Aside0.mk (blk_below (g := gb279) (o := .cells #[.int .i64 x280000_3, .int .i64 x280001_3] 45 (0, 0)) (by (with_reducible repeat (first | refine blk_drewN ?_ _ | refine blk_drew ?_ | refine blk_alloc ?_ _)); exact BK279.out) hb); have n4_ := Aside0.mk (below_step (by repeat (first | (with_reducible first | exact HB.out | apply below_alloc | apply pw_below_drewN | apply below_drew1 | refine below_set ?_ GE279.out) | exact HB.out)) hb); clear HO_5; clear HO_7; clear HO_13; clear BK279; clear HB; have HO_5 := n0_; have HO_7 := n1_; have HO_13 := n2_; have BK279 := n3_; have HB := n4_; clear n0_ n1_ n2_ n3_ n4_; (try clear hb); (try clear hb2); (try clear hk); (try clear hi)) | (go_at_call 30; (with_reducible refine (impl_Judge.calls t313 t314 t315 t316 t317 t318 _ A77.out).mono ?_); rintro e w' ⟨rfl, ⟨nd, rfl⟩⟩; (try first | exact ⟨rfl, _, World.drewN_drewN _ _ _⟩ | exact ⟨rfl, _, Eq.trans (World.drewN_drewN _ _ _) (congrArg (World.drewN _) (Nat.add_assoc _ _ _))⟩)) | (go_at_call 31; (with_reducible refine (spec_Judge.calls k3 t313 t314 t315 t316 t319 t320 _ A78.out).mono ?_); rintro e w117 ⟨rfl, hb⟩; have n0_ := Aside0.mk (Kd.R_below (by (with_reducible repeat (first | apply Kd.R_alloc | apply Kd.R_drewN | apply Kd.R_drew)); exact HO_5.out) hb); have n1_ := Aside0.mk (Kd.R_below (by (with_reducible repeat (first | apply Kd.R_alloc | apply Kd.R_drewN | apply Kd.R_drew)); exact HO_7.out) hb); have n2_ := Aside0.mk (Kd.R_below (by (with_reducible repeat (first | apply Kd.R_alloc | apply Kd.R_drewN | apply Kd.R_drew)); exact HO_13.out) hb); have n3_ := Aside0.mk (blk_below (g := gb279) (o := .cells #[.int .i64 x280000_3, .int .i64 x280001_3] 45 (0, 0)) (by (with_reducible repeat (first | refine blk_drewN ?_ _ | refine blk_drew ?_ | refine blk_alloc ?_ _)); exact BK279.out) hb); have n4_ := Aside0.mk (below_step (by repeat (first | (with_reducible first | exact HB.out | apply below_alloc | apply pw_below_drewN | apply below_drew1 | refine below_set ?_ GE279.out) | exact HB.out)) hb); clear HO_5; clear HO_7; clear HO_13; clear BK279; clear HB; have HO_5 := n0_; have HO_7 := n1_; have HO_13 := n2_; have BK279 := n3_; have HB := n4_; clear n0_ n1_ n2_ n3_ n4_; (try clear hb); (try clear hb2); (try clear hk); (try clear hi)))
                repeat (go_quiet (first | (go_at_call 29; (with_reducible refine (spec_DrawJudge.calls _ _ l0 t313 t314 t315 t316 _ ?side1 ?side2 A76.out).mono ?_); (case side1 => repeat (first | exact (Kd.C_below HR0.out HB.out) | (with_reducible refine Kd.C_alloc ?_ _) | (with_reducible refine Kd.C_drewN ?_ _) | (with_reducible refine Kd.C_drew ?_))); (case side2 => exact HC0.out); rintro e w116 ⟨rfl, hb⟩; have n0_ := Aside0.mk (Kd.R_below (by (with_reducible repeat (first | apply Kd.R_alloc | apply Kd.R_drewN | apply Kd.R_drew)); exact HO_5.out) hb); have n1_ := Aside0.mk (Kd.R_below (by (with_reducible repeat (first | apply Kd.R_alloc | apply Kd.R_drewN | apply Kd.R_drew)); exact HO_7.out) hb); have n2_ := Aside0.mk (Kd.R_below (by (with_reducible repeat (first | apply Kd.R_alloc | apply Kd.R_drewN | apply Kd.R_drew)); exact HO_13.out) hb); have n3_ := Aside0.mk (blk_below (g := gb279) (o := .cells #[.int .i64 x280000_3, .int .i64 x280001_3] 45 (0, 0)) (by (with_reducible repeat (first | refine blk_drewN ?_ _ | refine blk_drew ?_ | refine blk_alloc ?_ _)); exact BK279.out) hb); have n4_ := Aside0.mk (below_step (by repeat (first | (with_reducible first | exact HB.out | apply below_alloc | apply pw_below_drewN | apply below_drew1 | refine below_set ?_ GE279.out) | exact HB.out)) hb); clear HO_5; clear HO_7; clear HO_13; clear BK279; clear HB; have HO_5 := n0_; have HO_7 := n1_; have HO_13 := n2_; have BK279 := n3_; have HB := n4_; clear n0_ n1_ n2_ n3_ n4_; (try clear hb); (try clear hb2); (try clear hk); (try clear hi)) | (go_at_call 30; (with_reducible refine (impl_Judge.calls t313 t314 t315 t316 t317 t318 _ A77.out).mono ?_); rintro e w' ⟨rfl, ⟨nd, rfl⟩⟩; (try first | exact ⟨rfl, _, World.drewN_drewN _ _ _⟩ | exact ⟨rfl, _, Eq.trans (World.drewN_drewN _ _ _) (congrArg (World.drewN _) (Nat.add_assoc _ _ _))⟩)) | (go_at_call 31; (with_reducible refine (spec_Judge.calls k3 t313 t314 t315 t316 t319 t320 _ A78.out).mono ?_); rintro e w117 ⟨rfl, hb⟩; have n0_ := Aside0.mk (Kd.R_below (by (with_reducible repeat (first | apply Kd.R_alloc | apply Kd.R_drewN | apply Kd.R_drew)); exact HO_5.out) hb); have n1_ := Aside0.mk (Kd.R_below (by (with_reducible repeat (first | apply Kd.R_alloc | apply Kd.R_drewN | apply Kd.R_drew)); exact HO_7.out) hb); have n2_ := Aside0.mk (Kd.R_below (by (with_reducible repeat (first | apply Kd.R_alloc | apply Kd.R_drewN | apply Kd.R_drew)); exact HO_13.out) hb); have n3_ := Aside0.mk (blk_below (g := gb279) (o := .cells #[.int .i64 x280000_3, .int .i64 x280001_3] 45 (0, 0)) (by (with_reducible repeat (first | refine blk_drewN ?_ _ | refine blk_drew ?_ | refine blk_alloc ?_ _)); exact BK279.out) hb); have n4_ := Aside0.mk (below_step (by repeat (first | (with_reducible first | exact HB.out | apply below_alloc | apply pw_below_drewN | apply below_drew1 | refine below_set ?_ GE279.out) | exact HB.out)) hb); clear HO_5; clear HO_7; clear HO_13; clear BK279; clear HB; have HO_5 := n0_; have HO_7 := n1_; have HO_13 := n2_; have BK279 := n3_; have HB := n4_; clear n0_ n1_ n2_ n3_ n4_; (try clear hb); (try clear hb2); (try clear hk); (try clear hi))); try go_wp2_with (first | (go_at_call 29; (with_reducible refine (spec_DrawJudge.calls _ _ l0 t313 t314 t315 t316 _ ?side1 ?side2 A76.out).mono ?_); (case side1 => repeat (first | exact (Kd.C_below HR0.out HB.out) | (with_reducible refine Kd.C_alloc ?_ _) | (with_reducible refine Kd.C_drewN ?_ _) | (with_reducible refine Kd.C_drew ?_))); (case side2 => exact HC0.out); rintro e w116 ⟨rfl, hb⟩; have n0_ := Aside0.mk (Kd.R_below (by (with_reducible repeat (first | apply Kd.R_alloc | apply Kd.R_drewN | apply Kd.R_drew)); exact HO_5.out) hb); have n1_ := Aside0.mk (Kd.R_below (by (with_reducible repeat (first | apply Kd.R_alloc | apply Kd.R_drewN | apply Kd.R_drew)); exact HO_7.out) hb); have n2_ := Aside0.mk (Kd.R_below (by (with_reducible repeat (first | apply Kd.R_alloc | apply Kd.R_drewN | apply Kd.R_drew)); exact HO_13.out) hb); have n3_ := Aside0.mk (blk_below (g := gb279) (o := .cells #[.int .i64 x280000_3, .int .i64 x280001_3] 45 (0, 0)) (by (with_reducible repeat (first | refine blk_drewN ?_ _ | refine blk_drew ?_ | refine blk_alloc ?_ _)); exact BK279.out) hb); have n4_ := Aside0.mk (below_step (by repeat (first | (with_reducible first | exact HB.out | apply below_alloc | apply pw_below_drewN | apply below_drew1 | refine below_set ?_ GE279.out) | exact HB.out)) hb); clear HO_5; clear HO_7; clear HO_13; clear BK279; clear HB; have HO_5 := n0_; have HO_7 := n1_; have HO_13 := n2_; have BK279 := n3_; have HB := n4_; clear n0_ n1_ n2_ n3_ n4_; (try clear hb); (try clear hb2); (try clear hk); (try clear hi)) | (go_at_call 30; (with_reducible refine (impl_Judge.calls t313 t314 t315 t316 t317 t318 _ A77.out).mono ?_); rintro e w' ⟨rfl, ⟨nd, rfl⟩⟩; (try first | exact ⟨rfl, _, World.drewN_drewN _ _ _⟩ | exact ⟨rfl, _, Eq.trans (World.drewN_drewN _ _ _) (congrArg (World.drewN _) (Nat.add_assoc _ _ _))⟩)) | (go_at_call 31; (with_reducible refine (spec_Judge.calls k3 t313 t314 t315 t316 t319 t320 _ A78.out).mono ?_); rintro e w117 ⟨rfl, hb⟩; have n0_ := Aside0.mk (Kd.R_below (by (with_reducible repeat (first | apply Kd.R_alloc | apply Kd.R_drewN | apply Kd.R_drew)); exact HO_5.out) hb); have n1_ := Aside0.mk (Kd.R_below (by (with_reducible repeat (first | apply Kd.R_alloc | apply Kd.R_drewN | apply Kd.R_drew)); exact HO_7.out) hb); have n2_ := Aside0.mk (Kd.R_below (by (with_reducible repeat (first | apply Kd.R_alloc | apply Kd.R_drewN | apply Kd.R_drew)); exact HO_13.out) hb); have n3_ := Aside0.mk (blk_below (g := gb279) (o := .cells #[.int .i64 x280000_3, .int .i64 x280001_3] 45 (0, 0)) (by (with_reducible repeat (first | refine blk_drewN ?_ _ | refine blk_drew ?_ | refine blk_alloc ?_ _)); exact BK279.out) hb); have n4_ := Aside0.mk (below_step (by repeat (first | (with_reducible first | exact HB.out | apply below_alloc | apply pw_below_drewN | apply below_drew1 | refine below_set ?_ GE279.out) | exact HB.out)) hb); clear HO_5; clear HO_7; clear HO_13; clear BK279; clear HB; have HO_5 := n0_; have HO_7 := n1_; have HO_13 := n2_; have BK279 := n3_; have HB := n4_; clear n0_ n1_ n2_ n3_ n4_; (try clear hb); (try clear hb2); (try clear hk); (try clear hi))))
                go_ret
                exact ⟨by first | rfl | (simp [errW_none, errW_some] <;> rfl) | (simp [*, errW_none, errW_some] <;> rfl), by repeat (first | (with_reducible first | exact HB.out | apply below_alloc | apply pw_below_drewN | apply below_drew1 | refine below_set ?_ GE279.out) | exact HB.out)⟩
              ·rw [if_neg c75] at H
               have c75b0 : (x14_3 == t283) = false := beq_eq_false_iff_ne.mpr c75
               have c75b1 : (x14_3 != t283) = true := bne_iff_ne.mpr c75
               obtain rfl := Option.some.inj H
               obtain ⟨Ao118, co118, eo118⟩ := Kd.R_slice HO_7.out
               subst eo118
               go_wp2
               repeat (go_quiet (fail); try go_wp2)
               go_ret
               exact ⟨by first | rfl | (simp [errW_none, errW_some] <;> rfl) | (simp [*, errW_none, errW_some] <;> rfl), by repeat (first | (with_reducible first | exact HB.out | apply below_alloc | apply pw_below_drewN | apply below_drew1 | refine below_set ?_ GE279.out) | exact HB.out)⟩
          ·rw [if_neg c32] at H
           exact absurd H (by simp)
         ·rw [if_neg c31] at H
          exact absurd H (by simp)
     ·rw [if_neg c9] at H
      exact absurd H (by simp)
    ·rw [if_neg c8] at H
     exact absurd H (by simp)

/-- THE ONE PURE STATEMENT of laws_FnProbe: yours. -/
def laws_FnProbe.Pure : Prop := ∀ (l0 : List Int) (l1 : List Int), l0.length ≤ maxLen → l0.length * 1 ≤ 140737488351232 → (∀ x ∈ l0, (Lit.int .u8 x).wf = true) → l1.length ≤ maxLen → l1.length * 1 ≤ 140737488351232 → (∀ x ∈ l1, (Lit.int .u8 x).wf = true) → ∃ k, laws_FnProbe.f k l0 l1 = some true
theorem laws_FnProbe.walk (P : laws_FnProbe.Pure) (a0 : Option Addr) (len0 cap0 : Nat) (z0 : List Int) (a1 : Option Addr) (len1 cap1 : Nat) (z1 : List Int) (w : World) (w0 : (a0 = none ∧ len0 = 0 ∧ cap0 = 0 ∧ z0 = []) ∨ ∃ x, a0 = some x ∧ len0 ≤ cap0 ∧ cap0 ≤ maxLen ∧ z0.length = cap0 ∧ (∀ i, i < z0.length → w.cell? (x.add i) = some (.int .u8 (z0.getD i 0))) ∧ ∀ n ∈ z0, (Lit.int .u8 n).wf = true) (y0 : len0 * 1 ≤ 140737488351232) (w1 : (a1 = none ∧ len1 = 0 ∧ cap1 = 0 ∧ z1 = []) ∨ ∃ x, a1 = some x ∧ len1 ≤ cap1 ∧ cap1 ≤ maxLen ∧ z1.length = cap1 ∧ (∀ i, i < z1.length → w.cell? (x.add i) = some (.int .u8 (z1.getD i 0))) ∧ ∀ n ∈ z1, (Lit.int .u8 n).wf = true) (y1 : len1 * 1 ≤ 140737488351232) :
  Calls Try.prog 5 #[.slice a0 len0 cap0, .slice a1 len1 cap1] w fun e w' => e = .returned (.bool true) ∧ Below w.heap.size w w' := by
 obtain ⟨l0, rfl, hr0, hm0, hw0, hc0⟩ := ReadsInt.ofRowC w0
 obtain ⟨l1, rfl, hr1, hm1, hw1, hc1⟩ := ReadsInt.ofRowC w1
 obtain ⟨k, h⟩ := P l0 l1 hm0 y0 hw0 hm1 y1 hw1
 refine (laws_FnProbe.calls k _ _ l0 _ _ l1 true w (Kd.C_of_reads (d := (0 : Int)) (h1 := fun _ => rfl) hr0) hc0 (Kd.C_of_reads (d := (0 : Int)) (h1 := fun _ => rfl) hr1) hc1 h).mono ?_
 rintro e w' ⟨rfl, hd⟩
 exact ⟨rfl, hd⟩

end Go.Proofs.Ythcpdgiinmocaaa.PFnProbe
