/- Written for this claim by a program of this session: the functions that the law reaches, each with its contract. -/
import Derived.Test.YtgmbbcnfcddamaaPFnExactZigzagx0
import Derived.Test.YtgmbbcnfcddamaaPFnExactZigzagx2
import Derived.Test.YtgmbbcnfcddamaaPFnExactZigzagx3
import Derived.Test.YtgmbbcnfcddamaaPFnExactZigzagx4
namespace Go.Proofs.Ytgmbbcnfcddamaa.PFnExactZigzag
open Go.RowKit Go.Proofs.YtgmbbcnfcddamaaW.PrintWords Go.Proofs.YtgmbbcnfcddamaaW.PrintLast Go.Proofs.YtgmbbcnfcddamaaW.PrintMore
open Go.Proofs.YtgmbbcnfcddamaaW.PrintWords.Aside0 renaming mk → zA
open List renaming setIfInBounds_toArray → zB, set_cons_zero → zC, set_cons_succ → zD
open Go.Proofs.YtgmbbcnfcddamaaW.PrintWords.Kd renaming R_drewN → zE, R_alloc → zF, R_drew → zG, C_drewN → zH, C_alloc → zI, C_drew → zJ, R_reads' → zK, R_below → zL
open Go.Proofs.YtgmbbcnfcddamaaW.PrintWords renaming blk_drewN → zM, blk_drew → zN, blk_alloc → zO, pw_below_drewN → zP, below_drew1 → zQ, below_alloc → zR, below_set → zS, below_size → zT, blk_below → zU
attribute [local go_sem] i64_w max2_int min2_int max_two min_two max_three min_three max_four min_four
set_option linter.unusedVariables false
set_option linter.unusedSimpArgs false

mutual
def spec_Zigzag.j0 : Nat → Int → Int → Bool → Int → Int → List Int → Int → Int → List Int → Option ((List (S61)) × Int)
 | 0, _, _, _, _, _, _, _, _, _ => none
 | k + 1, x2, x3, x34, x178000, x178001, x178002, x179000, x179001, x179002 => if x34 = true then (some ((([] : List (S61))), 1)) else ((spec_l10Lowest.f k x179000 x179001 x179002 x2).bind fun t183 => ((some (([] : List Int) : List Int)).bind fun y186 => (if y186.length + x178002.length < 17592186044416 then ((spec_l11Levels.f k x3).bind fun t196 => (spec_Zigzag.l0 k t183 t196 0 x179000 x179001 x179002 x179000 x179001 x179002 x2 (y186 ++ x178002) 0 (([(⟨true, 0, 0, 24⟩ : S61)] : List (S61))))) else (none))))
def spec_Zigzag.l0 : Nat → List Int → List Int → Int → Int → Int → List Int → Int → Int → List Int → Int → List Int → Int → List (S61) → Option ((List (S61)) × Int)
 | 0, _, _, _, _, _, _, _, _, _, _, _, _, _ => none
 | k + 1, x10, x12, x13, x179000, x179001, x179002, x196000, x196001, x196002, x196003, x196004, x196005, x196006 => if x13 < (x12.length : Int) then (spec_Zigzag.l1 k x10 x12 x13 0 x179000 x179001 x179002 x196000 x196001 x196002 x196003 x196004 x196005 x196006) else (spec_Zigzag.l3 k x10 x12 0 x179000 x179001 x179002 x196000 x196001 x196002 x196003 x196004 x196005 x196006)
def spec_Zigzag.l1 : Nat → List Int → List Int → Int → Int → Int → Int → List Int → Int → Int → List Int → Int → List Int → Int → List (S61) → Option ((List (S61)) × Int)
 | 0, _, _, _, _, _, _, _, _, _, _, _, _, _, _ => none
 | k + 1, x10, x12, x13, x14, x179000, x179001, x179002, x196000, x196001, x196002, x196003, x196004, x196005, x196006 => if x14 < x179001 then (spec_Zigzag.l2 k x10 x12 x13 x14 0 x179000 x179001 x179002 x196000 x196001 x196002 x196003 x196004 x196005 x196006) else (spec_Zigzag.l0 k x10 x12 (wrap64 (x13 + 1)) x179000 x179001 x179002 x196000 x196001 x196002 x196003 x196004 x196005 x196006)
def spec_Zigzag.l2 : Nat → List Int → List Int → Int → Int → Int → Int → Int → List Int → Int → Int → List Int → Int → List Int → Int → List (S61) → Option ((List (S61)) × Int)
 | 0, _, _, _, _, _, _, _, _, _, _, _, _, _, _, _ => none
 | k + 1, x10, x12, x13, x14, x15, x179000, x179001, x179002, x196000, x196001, x196002, x196003, x196004, x196005, x196006 => if x15 < x179000 then (if (Int.tmod x14 2) = 1 then (if 0 ≤ (wrap64 ((wrap64 (x14 * x179000)) + (wrap64 ((wrap64 (x179000 - 1)) - x15)))) then (if (wrap64 ((wrap64 (x14 * x179000)) + (wrap64 ((wrap64 (x179000 - 1)) - x15)))) < (x10.length : Int) then (if 0 ≤ x13 then (if x13 < (x12.length : Int) then (if (rd x10 (wrap64 ((wrap64 (x14 * x179000)) + (wrap64 ((wrap64 (x179000 - 1)) - x15))))) ≤ (rd x12 x13) then ((spec_l11Run_stand.f k 0 (wrap64 ((wrap64 (x179000 - 1)) - x15)) x14 (rd x12 x13) x196000 x196001 x196002 x196003 x196004 x196005 x196006).bind fun bt202 => (spec_Zigzag.l2 k x10 x12 x13 x14 (wrap64 (x15 + 1)) x179000 x179001 x179002 x196000 x196001 x196002 x196003 bt202.2.2 bt202.1 bt202.2.1)) else (spec_Zigzag.l2 k x10 x12 x13 x14 (wrap64 (x15 + 1)) x179000 x179001 x179002 x196000 x196001 x196002 x196003 x196004 x196005 x196006)) else (none)) else (none)) else (none)) else (none)) else (if 0 ≤ (wrap64 ((wrap64 (x14 * x179000)) + x15)) then (if (wrap64 ((wrap64 (x14 * x179000)) + x15)) < (x10.length : Int) then (if 0 ≤ x13 then (if x13 < (x12.length : Int) then (if (rd x10 (wrap64 ((wrap64 (x14 * x179000)) + x15))) ≤ (rd x12 x13) then ((spec_l11Run_stand.f k 0 x15 x14 (rd x12 x13) x196000 x196001 x196002 x196003 x196004 x196005 x196006).bind fun bt210 => (spec_Zigzag.l2 k x10 x12 x13 x14 (wrap64 (x15 + 1)) x179000 x179001 x179002 x196000 x196001 x196002 x196003 bt210.2.2 bt210.1 bt210.2.1)) else (spec_Zigzag.l2 k x10 x12 x13 x14 (wrap64 (x15 + 1)) x179000 x179001 x179002 x196000 x196001 x196002 x196003 x196004 x196005 x196006)) else (none)) else (none)) else (none)) else (none))) else (spec_Zigzag.l1 k x10 x12 x13 (wrap64 (x14 + 1)) x179000 x179001 x179002 x196000 x196001 x196002 x196003 x196004 x196005 x196006)
def spec_Zigzag.l3 : Nat → List Int → List Int → Int → Int → Int → List Int → Int → Int → List Int → Int → List Int → Int → List (S61) → Option ((List (S61)) × Int)
 | 0, _, _, _, _, _, _, _, _, _, _, _, _, _ => none
 | k + 1, x10, x12, x17, x179000, x179001, x179002, x196000, x196001, x196002, x196003, x196004, x196005, x196006 => if x17 < x179001 then (spec_Zigzag.l4 k x10 x12 x17 0 x179000 x179001 x179002 x196000 x196001 x196002 x196003 x196004 x196005 x196006) else (if (x196006.length : Int) > 2000 then (some ((([] : List (S61))), 18)) else (some (x196006, 0)))
def spec_Zigzag.l4 : Nat → List Int → List Int → Int → Int → Int → Int → List Int → Int → Int → List Int → Int → List Int → Int → List (S61) → Option ((List (S61)) × Int)
 | 0, _, _, _, _, _, _, _, _, _, _, _, _, _, _ => none
 | k + 1, x10, x12, x17, x18, x179000, x179001, x179002, x196000, x196001, x196002, x196003, x196004, x196005, x196006 => if x18 < x179000 then (if 0 ≤ (wrap64 ((wrap64 (x17 * x179000)) + x18)) then (if (wrap64 ((wrap64 (x17 * x179000)) + x18)) < (x10.length : Int) then (spec_Zigzag.l5 k x10 x12 x17 x18 (rd x10 (wrap64 ((wrap64 (x17 * x179000)) + x18))) false 0 x179000 x179001 x179002 x196000 x196001 x196002 x196003 x196004 x196005 x196006) else (none)) else (none)) else (spec_Zigzag.l3 k x10 x12 (wrap64 (x17 + 1)) x179000 x179001 x179002 x196000 x196001 x196002 x196003 x196004 x196005 x196006)
def spec_Zigzag.l5 : Nat → List Int → List Int → Int → Int → Int → Bool → Int → Int → Int → List Int → Int → Int → List Int → Int → List Int → Int → List (S61) → Option ((List (S61)) × Int)
 | 0, _, _, _, _, _, _, _, _, _, _, _, _, _, _, _, _, _ => none
 | k + 1, x10, x12, x17, x18, x19, x20, x21, x179000, x179001, x179002, x196000, x196001, x196002, x196003, x196004, x196005, x196006 => if x21 < (x12.length : Int) then (if x20 = true then (spec_Zigzag.l5 k x10 x12 x17 x18 x19 true (wrap64 (x21 + 1)) x179000 x179001 x179002 x196000 x196001 x196002 x196003 x196004 x196005 x196006) else (if 0 ≤ x21 then (spec_Zigzag.l5 k x10 x12 x17 x18 x19 ((rd x12 x21) == x19) (wrap64 (x21 + 1)) x179000 x179001 x179002 x196000 x196001 x196002 x196003 x196004 x196005 x196006) else (none))) else (if x20 = true then (spec_Zigzag.l4 k x10 x12 x17 (wrap64 (x18 + 1)) x179000 x179001 x179002 x196000 x196001 x196002 x196003 x196004 x196005 x196006) else ((spec_l11Run_stand.f k 0 x18 x17 x19 x196000 x196001 x196002 x196003 x196004 x196005 x196006).bind fun bt220 => (spec_Zigzag.l4 k x10 x12 x17 (wrap64 (x18 + 1)) x179000 x179001 x179002 x196000 x196001 x196002 x196003 bt220.2.2 bt220.1 bt220.2.1)))
end
def spec_Zigzag.f (k : Nat) (a0_0 : Int) (a0_1 : Int) (l0_2 : List Int) (a1_0 : Int) (a1_1 : Int) (l1_2 : List Int) (a2 : Int) (a3 : Int) : Option ((List (S61)) × Int) := (spec_l10Pair.f k a0_0 a0_1 l0_2 a1_0 a1_1 l1_2 a2).bind fun t179 => (if t179 = true then (if a3 < 1 then (spec_Zigzag.j0 k a2 a3 true a0_0 a0_1 l0_2 a1_0 a1_1 l1_2) else (spec_Zigzag.j0 k a2 a3 (decide (a3 > 24)) a0_0 a0_1 l0_2 a1_0 a1_1 l1_2)) else (spec_Zigzag.j0 k a2 a3 true a0_0 a0_1 l0_2 a1_0 a1_1 l1_2))
theorem spec_Zigzag.mono_l : ∀ k, (∀ y0 y1 y2 y3 y4 y5 y6 y7 y8, LeO (spec_Zigzag.j0 k y0 y1 y2 y3 y4 y5 y6 y7 y8) (spec_Zigzag.j0 (k + 1) y0 y1 y2 y3 y4 y5 y6 y7 y8)) ∧ (∀ y0 y1 y2 y3 y4 y5 y6 y7 y8 y9 y10 y11 y12, LeO (spec_Zigzag.l0 k y0 y1 y2 y3 y4 y5 y6 y7 y8 y9 y10 y11 y12) (spec_Zigzag.l0 (k + 1) y0 y1 y2 y3 y4 y5 y6 y7 y8 y9 y10 y11 y12)) ∧ (∀ y0 y1 y2 y3 y4 y5 y6 y7 y8 y9 y10 y11 y12 y13, LeO (spec_Zigzag.l1 k y0 y1 y2 y3 y4 y5 y6 y7 y8 y9 y10 y11 y12 y13) (spec_Zigzag.l1 (k + 1) y0 y1 y2 y3 y4 y5 y6 y7 y8 y9 y10 y11 y12 y13)) ∧ (∀ y0 y1 y2 y3 y4 y5 y6 y7 y8 y9 y10 y11 y12 y13 y14, LeO (spec_Zigzag.l2 k y0 y1 y2 y3 y4 y5 y6 y7 y8 y9 y10 y11 y12 y13 y14) (spec_Zigzag.l2 (k + 1) y0 y1 y2 y3 y4 y5 y6 y7 y8 y9 y10 y11 y12 y13 y14)) ∧ (∀ y0 y1 y2 y3 y4 y5 y6 y7 y8 y9 y10 y11 y12, LeO (spec_Zigzag.l3 k y0 y1 y2 y3 y4 y5 y6 y7 y8 y9 y10 y11 y12) (spec_Zigzag.l3 (k + 1) y0 y1 y2 y3 y4 y5 y6 y7 y8 y9 y10 y11 y12)) ∧ (∀ y0 y1 y2 y3 y4 y5 y6 y7 y8 y9 y10 y11 y12 y13, LeO (spec_Zigzag.l4 k y0 y1 y2 y3 y4 y5 y6 y7 y8 y9 y10 y11 y12 y13) (spec_Zigzag.l4 (k + 1) y0 y1 y2 y3 y4 y5 y6 y7 y8 y9 y10 y11 y12 y13)) ∧ (∀ y0 y1 y2 y3 y4 y5 y6 y7 y8 y9 y10 y11 y12 y13 y14 y15 y16, LeO (spec_Zigzag.l5 k y0 y1 y2 y3 y4 y5 y6 y7 y8 y9 y10 y11 y12 y13 y14 y15 y16) (spec_Zigzag.l5 (k + 1) y0 y1 y2 y3 y4 y5 y6 y7 y8 y9 y10 y11 y12 y13 y14 y15 y16))
 | 0 => ⟨fun _ _ _ _ _ _ _ _ _ r h => by simp [spec_Zigzag.j0] at h, fun _ _ _ _ _ _ _ _ _ _ _ _ _ r h => by simp [spec_Zigzag.l0] at h, fun _ _ _ _ _ _ _ _ _ _ _ _ _ _ r h => by simp [spec_Zigzag.l1] at h, fun _ _ _ _ _ _ _ _ _ _ _ _ _ _ _ r h => by simp [spec_Zigzag.l2] at h, fun _ _ _ _ _ _ _ _ _ _ _ _ _ r h => by simp [spec_Zigzag.l3] at h, fun _ _ _ _ _ _ _ _ _ _ _ _ _ _ r h => by simp [spec_Zigzag.l4] at h, fun _ _ _ _ _ _ _ _ _ _ _ _ _ _ _ _ _ r h => by simp [spec_Zigzag.l5] at h⟩
 | k + 1 => by
  obtain ⟨ih0, ih1, ih2, ih3, ih4, ih5, ih6⟩ := spec_Zigzag.mono_l k
  refine ⟨?_, ?_, ?_, ?_, ?_, ?_, ?_⟩
  ·intro y0 y1 y2 y3 y4 y5 y6 y7 y8
   unfold spec_Zigzag.j0
   repeat' first
   | (with_reducible exact ih0 _ _ _ _ _ _ _ _ _)
   | (with_reducible exact ih1 _ _ _ _ _ _ _ _ _ _ _ _ _)
   | (with_reducible exact ih2 _ _ _ _ _ _ _ _ _ _ _ _ _ _)
   | (with_reducible exact ih3 _ _ _ _ _ _ _ _ _ _ _ _ _ _ _)
   | (with_reducible exact ih4 _ _ _ _ _ _ _ _ _ _ _ _ _)
   | (with_reducible exact ih5 _ _ _ _ _ _ _ _ _ _ _ _ _ _)
   | (with_reducible exact ih6 _ _ _ _ _ _ _ _ _ _ _ _ _ _ _ _ _)
   | (with_reducible exact spec_l10Lowest.mono _ _ _ _ _)
   | (with_reducible exact spec_l10Pair.mono _ _ _ _ _ _ _ _)
   | (with_reducible exact spec_l11Levels.mono _ _)
   | (with_reducible exact spec_l11Run_stand.mono _ _ _ _ _ _ _ _ _ _ _ _)
   | (with_reducible exact LeO.refl _)
   | (with_reducible exact LeO.none _)
   | (with_reducible refine LeO.ite ?_ ?_)
   | (with_reducible refine LeO.bind ?_ (fun _ => ?_))
   | exact ih0 _ _ _ _ _ _ _ _ _
   | exact ih1 _ _ _ _ _ _ _ _ _ _ _ _ _
   | exact ih2 _ _ _ _ _ _ _ _ _ _ _ _ _ _
   | exact ih3 _ _ _ _ _ _ _ _ _ _ _ _ _ _ _
   | exact ih4 _ _ _ _ _ _ _ _ _ _ _ _ _
   | exact ih5 _ _ _ _ _ _ _ _ _ _ _ _ _ _
   | exact ih6 _ _ _ _ _ _ _ _ _ _ _ _ _ _ _ _ _
   | exact spec_l10Lowest.mono _ _ _ _ _
   | exact spec_l10Pair.mono _ _ _ _ _ _ _ _
   | exact spec_l11Levels.mono _ _
   | exact spec_l11Run_stand.mono _ _ _ _ _ _ _ _ _ _ _ _
   | exact LeO.none _
   | refine LeO.ite ?_ ?_
   | refine LeO.bind ?_ (fun _ => ?_)
  ·intro y0 y1 y2 y3 y4 y5 y6 y7 y8 y9 y10 y11 y12
   unfold spec_Zigzag.l0
   repeat' first
   | (with_reducible exact ih0 _ _ _ _ _ _ _ _ _)
   | (with_reducible exact ih1 _ _ _ _ _ _ _ _ _ _ _ _ _)
   | (with_reducible exact ih2 _ _ _ _ _ _ _ _ _ _ _ _ _ _)
   | (with_reducible exact ih3 _ _ _ _ _ _ _ _ _ _ _ _ _ _ _)
   | (with_reducible exact ih4 _ _ _ _ _ _ _ _ _ _ _ _ _)
   | (with_reducible exact ih5 _ _ _ _ _ _ _ _ _ _ _ _ _ _)
   | (with_reducible exact ih6 _ _ _ _ _ _ _ _ _ _ _ _ _ _ _ _ _)
   | (with_reducible exact spec_l10Lowest.mono _ _ _ _ _)
   | (with_reducible exact spec_l10Pair.mono _ _ _ _ _ _ _ _)
   | (with_reducible exact spec_l11Levels.mono _ _)
   | (with_reducible exact spec_l11Run_stand.mono _ _ _ _ _ _ _ _ _ _ _ _)
   | (with_reducible exact LeO.refl _)
   | (with_reducible exact LeO.none _)
   | (with_reducible refine LeO.ite ?_ ?_)
   | (with_reducible refine LeO.bind ?_ (fun _ => ?_))
   | exact ih0 _ _ _ _ _ _ _ _ _
   | exact ih1 _ _ _ _ _ _ _ _ _ _ _ _ _
   | exact ih2 _ _ _ _ _ _ _ _ _ _ _ _ _ _
   | exact ih3 _ _ _ _ _ _ _ _ _ _ _ _ _ _ _
   | exact ih4 _ _ _ _ _ _ _ _ _ _ _ _ _
   | exact ih5 _ _ _ _ _ _ _ _ _ _ _ _ _ _
   | exact ih6 _ _ _ _ _ _ _ _ _ _ _ _ _ _ _ _ _
   | exact spec_l10Lowest.mono _ _ _ _ _
   | exact spec_l10Pair.mono _ _ _ _ _ _ _ _
   | exact spec_l11Levels.mono _ _
   | exact spec_l11Run_stand.mono _ _ _ _ _ _ _ _ _ _ _ _
   | exact LeO.none _
   | refine LeO.ite ?_ ?_
   | refine LeO.bind ?_ (fun _ => ?_)
  ·intro y0 y1 y2 y3 y4 y5 y6 y7 y8 y9 y10 y11 y12 y13
   unfold spec_Zigzag.l1
   repeat' first
   | (with_reducible exact ih0 _ _ _ _ _ _ _ _ _)
   | (with_reducible exact ih1 _ _ _ _ _ _ _ _ _ _ _ _ _)
   | (with_reducible exact ih2 _ _ _ _ _ _ _ _ _ _ _ _ _ _)
   | (with_reducible exact ih3 _ _ _ _ _ _ _ _ _ _ _ _ _ _ _)
   | (with_reducible exact ih4 _ _ _ _ _ _ _ _ _ _ _ _ _)
   | (with_reducible exact ih5 _ _ _ _ _ _ _ _ _ _ _ _ _ _)
   | (with_reducible exact ih6 _ _ _ _ _ _ _ _ _ _ _ _ _ _ _ _ _)
   | (with_reducible exact spec_l10Lowest.mono _ _ _ _ _)
   | (with_reducible exact spec_l10Pair.mono _ _ _ _ _ _ _ _)
   | (with_reducible exact spec_l11Levels.mono _ _)
   | (with_reducible exact spec_l11Run_stand.mono _ _ _ _ _ _ _ _ _ _ _ _)
   | (with_reducible exact LeO.refl _)
   | (with_reducible exact LeO.none _)
   | (with_reducible refine LeO.ite ?_ ?_)
   | (with_reducible refine LeO.bind ?_ (fun _ => ?_))
   | exact ih0 _ _ _ _ _ _ _ _ _
   | exact ih1 _ _ _ _ _ _ _ _ _ _ _ _ _
   | exact ih2 _ _ _ _ _ _ _ _ _ _ _ _ _ _
   | exact ih3 _ _ _ _ _ _ _ _ _ _ _ _ _ _ _
   | exact ih4 _ _ _ _ _ _ _ _ _ _ _ _ _
   | exact ih5 _ _ _ _ _ _ _ _ _ _ _ _ _ _
   | exact ih6 _ _ _ _ _ _ _ _ _ _ _ _ _ _ _ _ _
   | exact spec_l10Lowest.mono _ _ _ _ _
   | exact spec_l10Pair.mono _ _ _ _ _ _ _ _
   | exact spec_l11Levels.mono _ _
   | exact spec_l11Run_stand.mono _ _ _ _ _ _ _ _ _ _ _ _
   | exact LeO.none _
   | refine LeO.ite ?_ ?_
   | refine LeO.bind ?_ (fun _ => ?_)
  ·intro y0 y1 y2 y3 y4 y5 y6 y7 y8 y9 y10 y11 y12 y13 y14
   unfold spec_Zigzag.l2
   repeat' first
   | (with_reducible exact ih0 _ _ _ _ _ _ _ _ _)
   | (with_reducible exact ih1 _ _ _ _ _ _ _ _ _ _ _ _ _)
   | (with_reducible exact ih2 _ _ _ _ _ _ _ _ _ _ _ _ _ _)
   | (with_reducible exact ih3 _ _ _ _ _ _ _ _ _ _ _ _ _ _ _)
   | (with_reducible exact ih4 _ _ _ _ _ _ _ _ _ _ _ _ _)
   | (with_reducible exact ih5 _ _ _ _ _ _ _ _ _ _ _ _ _ _)
   | (with_reducible exact ih6 _ _ _ _ _ _ _ _ _ _ _ _ _ _ _ _ _)
   | (with_reducible exact spec_l10Lowest.mono _ _ _ _ _)
   | (with_reducible exact spec_l10Pair.mono _ _ _ _ _ _ _ _)
   | (with_reducible exact spec_l11Levels.mono _ _)
   | (with_reducible exact spec_l11Run_stand.mono _ _ _ _ _ _ _ _ _ _ _ _)
   | (with_reducible exact LeO.refl _)
   | (with_reducible exact LeO.none _)
   | (with_reducible refine LeO.ite ?_ ?_)
   | (with_reducible refine LeO.bind ?_ (fun _ => ?_))
   | exact ih0 _ _ _ _ _ _ _ _ _
   | exact ih1 _ _ _ _ _ _ _ _ _ _ _ _ _
   | exact ih2 _ _ _ _ _ _ _ _ _ _ _ _ _ _
   | exact ih3 _ _ _ _ _ _ _ _ _ _ _ _ _ _ _
   | exact ih4 _ _ _ _ _ _ _ _ _ _ _ _ _
   | exact ih5 _ _ _ _ _ _ _ _ _ _ _ _ _ _
   | exact ih6 _ _ _ _ _ _ _ _ _ _ _ _ _ _ _ _ _
   | exact spec_l10Lowest.mono _ _ _ _ _
   | exact spec_l10Pair.mono _ _ _ _ _ _ _ _
   | exact spec_l11Levels.mono _ _
   | exact spec_l11Run_stand.mono _ _ _ _ _ _ _ _ _ _ _ _
   | exact LeO.none _
   | refine LeO.ite ?_ ?_
   | refine LeO.bind ?_ (fun _ => ?_)
  ·intro y0 y1 y2 y3 y4 y5 y6 y7 y8 y9 y10 y11 y12
   unfold spec_Zigzag.l3
   repeat' first
   | (with_reducible exact ih0 _ _ _ _ _ _ _ _ _)
   | (with_reducible exact ih1 _ _ _ _ _ _ _ _ _ _ _ _ _)
   | (with_reducible exact ih2 _ _ _ _ _ _ _ _ _ _ _ _ _ _)
   | (with_reducible exact ih3 _ _ _ _ _ _ _ _ _ _ _ _ _ _ _)
   | (with_reducible exact ih4 _ _ _ _ _ _ _ _ _ _ _ _ _)
   | (with_reducible exact ih5 _ _ _ _ _ _ _ _ _ _ _ _ _ _)
   | (with_reducible exact ih6 _ _ _ _ _ _ _ _ _ _ _ _ _ _ _ _ _)
   | (with_reducible exact spec_l10Lowest.mono _ _ _ _ _)
   | (with_reducible exact spec_l10Pair.mono _ _ _ _ _ _ _ _)
   | (with_reducible exact spec_l11Levels.mono _ _)
   | (with_reducible exact spec_l11Run_stand.mono _ _ _ _ _ _ _ _ _ _ _ _)
   | (with_reducible exact LeO.refl _)
   | (with_reducible exact LeO.none _)
   | (with_reducible refine LeO.ite ?_ ?_)
   | (with_reducible refine LeO.bind ?_ (fun _ => ?_))
   | exact ih0 _ _ _ _ _ _ _ _ _
   | exact ih1 _ _ _ _ _ _ _ _ _ _ _ _ _
   | exact ih2 _ _ _ _ _ _ _ _ _ _ _ _ _ _
   | exact ih3 _ _ _ _ _ _ _ _ _ _ _ _ _ _ _
   | exact ih4 _ _ _ _ _ _ _ _ _ _ _ _ _
   | exact ih5 _ _ _ _ _ _ _ _ _ _ _ _ _ _
   | exact ih6 _ _ _ _ _ _ _ _ _ _ _ _ _ _ _ _ _
   | exact spec_l10Lowest.mono _ _ _ _ _
   | exact spec_l10Pair.mono _ _ _ _ _ _ _ _
   | exact spec_l11Levels.mono _ _
   | exact spec_l11Run_stand.mono _ _ _ _ _ _ _ _ _ _ _ _
   | exact LeO.none _
   | refine LeO.ite ?_ ?_
   | refine LeO.bind ?_ (fun _ => ?_)
  ·intro y0 y1 y2 y3 y4 y5 y6 y7 y8 y9 y10 y11 y12 y13
   unfold spec_Zigzag.l4
   repeat' first
   | (with_reducible exact ih0 _ _ _ _ _ _ _ _ _)
   | (with_reducible exact ih1 _ _ _ _ _ _ _ _ _ _ _ _ _)
   | (with_reducible exact ih2 _ _ _ _ _ _ _ _ _ _ _ _ _ _)
   | (with_reducible exact ih3 _ _ _ _ _ _ _ _ _ _ _ _ _ _ _)
   | (with_reducible exact ih4 _ _ _ _ _ _ _ _ _ _ _ _ _)
   | (with_reducible exact ih5 _ _ _ _ _ _ _ _ _ _ _ _ _ _)
   | (with_reducible exact ih6 _ _ _ _ _ _ _ _ _ _ _ _ _ _ _ _ _)
   | (with_reducible exact spec_l10Lowest.mono _ _ _ _ _)
   | (with_reducible exact spec_l10Pair.mono _ _ _ _ _ _ _ _)
   | (with_reducible exact spec_l11Levels.mono _ _)
   | (with_reducible exact spec_l11Run_stand.mono _ _ _ _ _ _ _ _ _ _ _ _)
   | (with_reducible exact LeO.refl _)
   | (with_reducible exact LeO.none _)
   | (with_reducible refine LeO.ite ?_ ?_)
   | (with_reducible refine LeO.bind ?_ (fun _ => ?_))
   | exact ih0 _ _ _ _ _ _ _ _ _
   | exact ih1 _ _ _ _ _ _ _ _ _ _ _ _ _
   | exact ih2 _ _ _ _ _ _ _ _ _ _ _ _ _ _
   | exact ih3 _ _ _ _ _ _ _ _ _ _ _ _ _ _ _
   | exact ih4 _ _ _ _ _ _ _ _ _ _ _ _ _
   | exact ih5 _ _ _ _ _ _ _ _ _ _ _ _ _ _
   | exact ih6 _ _ _ _ _ _ _ _ _ _ _ _ _ _ _ _ _
   | exact spec_l10Lowest.mono _ _ _ _ _
   | exact spec_l10Pair.mono _ _ _ _ _ _ _ _
   | exact spec_l11Levels.mono _ _
   | exact spec_l11Run_stand.mono _ _ _ _ _ _ _ _ _ _ _ _
   | exact LeO.none _
   | refine LeO.ite ?_ ?_
   | refine LeO.bind ?_ (fun _ => ?_)
  ·intro y0 y1 y2 y3 y4 y5 y6 y7 y8 y9 y10 y11 y12 y13 y14 y15 y16
   unfold spec_Zigzag.l5
   repeat' first
   | (with_reducible exact ih0 _ _ _ _ _ _ _ _ _)
   | (with_reducible exact ih1 _ _ _ _ _ _ _ _ _ _ _ _ _)
   | (with_reducible exact ih2 _ _ _ _ _ _ _ _ _ _ _ _ _ _)
   | (with_reducible exact ih3 _ _ _ _ _ _ _ _ _ _ _ _ _ _ _)
   | (with_reducible exact ih4 _ _ _ _ _ _ _ _ _ _ _ _ _)
   | (with_reducible exact ih5 _ _ _ _ _ _ _ _ _ _ _ _ _ _)
   | (with_reducible exact ih6 _ _ _ _ _ _ _ _ _ _ _ _ _ _ _ _ _)
   | (with_reducible exact spec_l10Lowest.mono _ _ _ _ _)
   | (with_reducible exact spec_l10Pair.mono _ _ _ _ _ _ _ _)
   | (with_reducible exact spec_l11Levels.mono _ _)
   | (with_reducible exact spec_l11Run_stand.mono _ _ _ _ _ _ _ _ _ _ _ _)
   | (with_reducible exact LeO.refl _)
   | (with_reducible exact LeO.none _)
   | (with_reducible refine LeO.ite ?_ ?_)
   | (with_reducible refine LeO.bind ?_ (fun _ => ?_))
   | exact ih0 _ _ _ _ _ _ _ _ _
   | exact ih1 _ _ _ _ _ _ _ _ _ _ _ _ _
   | exact ih2 _ _ _ _ _ _ _ _ _ _ _ _ _ _
   | exact ih3 _ _ _ _ _ _ _ _ _ _ _ _ _ _ _
   | exact ih4 _ _ _ _ _ _ _ _ _ _ _ _ _
   | exact ih5 _ _ _ _ _ _ _ _ _ _ _ _ _ _
   | exact ih6 _ _ _ _ _ _ _ _ _ _ _ _ _ _ _ _ _
   | exact spec_l10Lowest.mono _ _ _ _ _
   | exact spec_l10Pair.mono _ _ _ _ _ _ _ _
   | exact spec_l11Levels.mono _ _
   | exact spec_l11Run_stand.mono _ _ _ _ _ _ _ _ _ _ _ _
   | exact LeO.none _
   | refine LeO.ite ?_ ?_
   | refine LeO.bind ?_ (fun _ => ?_)
theorem spec_Zigzag.mono : ∀ a0 a1 a2 a3 a4 a5 a6 a7 k, LeO (spec_Zigzag.f k a0 a1 a2 a3 a4 a5 a6 a7) (spec_Zigzag.f (k + 1) a0 a1 a2 a3 a4 a5 a6 a7) := by
 intro a0 a1 a2 a3 a4 a5 a6 a7 k
 obtain ⟨ih0, ih1, ih2, ih3, ih4, ih5, ih6⟩ := spec_Zigzag.mono_l k
 unfold spec_Zigzag.f
 repeat' first
   | (with_reducible exact ih0 _ _ _ _ _ _ _ _ _)
   | (with_reducible exact ih1 _ _ _ _ _ _ _ _ _ _ _ _ _)
   | (with_reducible exact ih2 _ _ _ _ _ _ _ _ _ _ _ _ _ _)
   | (with_reducible exact ih3 _ _ _ _ _ _ _ _ _ _ _ _ _ _ _)
   | (with_reducible exact ih4 _ _ _ _ _ _ _ _ _ _ _ _ _)
   | (with_reducible exact ih5 _ _ _ _ _ _ _ _ _ _ _ _ _ _)
   | (with_reducible exact ih6 _ _ _ _ _ _ _ _ _ _ _ _ _ _ _ _ _)
   | (with_reducible exact spec_l10Lowest.mono _ _ _ _ _)
   | (with_reducible exact spec_l10Pair.mono _ _ _ _ _ _ _ _)
   | (with_reducible exact spec_l11Levels.mono _ _)
   | (with_reducible exact spec_l11Run_stand.mono _ _ _ _ _ _ _ _ _ _ _ _)
   | (with_reducible exact LeO.refl _)
   | (with_reducible exact LeO.none _)
   | (with_reducible refine LeO.ite ?_ ?_)
   | (with_reducible refine LeO.bind ?_ (fun _ => ?_))
   | exact ih0 _ _ _ _ _ _ _ _ _
   | exact ih1 _ _ _ _ _ _ _ _ _ _ _ _ _
   | exact ih2 _ _ _ _ _ _ _ _ _ _ _ _ _ _
   | exact ih3 _ _ _ _ _ _ _ _ _ _ _ _ _ _ _
   | exact ih4 _ _ _ _ _ _ _ _ _ _ _ _ _
   | exact ih5 _ _ _ _ _ _ _ _ _ _ _ _ _ _
   | exact ih6 _ _ _ _ _ _ _ _ _ _ _ _ _ _ _ _ _
   | exact spec_l10Lowest.mono _ _ _ _ _
   | exact spec_l10Pair.mono _ _ _ _ _ _ _ _
   | exact spec_l11Levels.mono _ _
   | exact spec_l11Run_stand.mono _ _ _ _ _ _ _ _ _ _ _ _
   | exact LeO.none _
   | refine LeO.ite ?_ ?_
   | refine LeO.bind ?_ (fun _ => ?_)
def spec_Zigzag.T4 : Bool × List (List Nat × List Nat) := (true, [([], []), ([], []), ([], []), ([], []), ([3], [3]), ([2, 4], [2, 4]), ([], []), ([6], [6]), ([0, 1, 5, 7], [0, 1, 5, 7]), ([8], [8]), ([9, 5, 0, 1, 2, 3, 4, 5, 6, 7, 8, 9], [9])])
def spec_Zigzag.B4 : List Nat := [0, 0, 0, 0, 8, 28, 0, 64, 255, 511, 1023]
theorem spec_Zigzag.tab4 : rtab .any (opsOf Try.f27 4) = spec_Zigzag.T4 := by kernel_rfl
theorem spec_Zigzag.bits4 : waitsOk spec_Zigzag.T4.2 spec_Zigzag.B4 = true := by kernel_rfl
def spec_Zigzag.T18 : Bool × List (List Nat × List Nat) := (true, [([], []), ([], []), ([], []), ([2], [2]), ([1, 3], [1, 3]), ([], []), ([4, 5], [4, 5]), ([0, 6], [0, 6]), ([7], [7]), ([], []), ([], []), ([9, 10], [9, 10]), ([11], [11]), ([8, 12], [8, 12])])
def spec_Zigzag.B18 : List Nat := [0, 0, 0, 4, 14, 0, 62, 127, 255, 0, 0, 1536, 3584, 8191]
theorem spec_Zigzag.tab18 : rtab .any (opsOf Try.f27 18) = spec_Zigzag.T18 := by kernel_rfl
theorem spec_Zigzag.bits18 : waitsOk spec_Zigzag.T18.2 spec_Zigzag.B18 = true := by kernel_rfl
set_option maxHeartbeats 8000000 in
set_option maxRecDepth 100000 in
theorem spec_Zigzag.calls (k : Nat) (a0_0 : Int) (a0_1 : Int) (A0_2 : Option Addr) (c0_2 : Nat) (l0_2 : List Int) (a1_0 : Int) (a1_1 : Int) (A1_2 : Option Addr) (c1_2 : Nat) (l1_2 : List Int) (a2 : Int) (a3 : Int) (r1 : List (S61)) (r2 : Int) (w : World) (hr0_2 : Kd.C (Kd.int .i64) w A0_2 l0_2.length l0_2) (hc0_2 : l0_2.length ≤ c0_2) (hr1_2 : Kd.C (Kd.int .i64) w A1_2 l1_2.length l1_2) (hc1_2 : l1_2.length ≤ c1_2) (h : spec_Zigzag.f k a0_0 a0_1 l0_2 a1_0 a1_1 l1_2 a2 a3 = some (r1, r2)) :
  Calls Try.prog 27 #[.agg #[.int .i64 a0_0, .int .i64 a0_1, .slice A0_2 l0_2.length c0_2], .agg #[.int .i64 a1_0, .int .i64 a1_1, .slice A1_2 l1_2.length c1_2], .int .i64 a2, .int .i64 a3] w fun e w' => ∃ v0_ : Value, e = .returned (.tuple #[v0_, .int .i64 r2]) ∧ Kd.R k61 61 w' w.heap.size (fun _ => True) v0_ r1 ∧ Below w.heap.size w w' := by
 have hu26 := Try.underlying26
 have hu61 := Try.underlying61
 have hu78 := Try.underlying78
 have HR0_2 := zA hr0_2
 have HC0_2 := zA hc0_2
 clear hr0_2 hc0_2
 have HR1_2 := zA hr1_2
 have HC1_2 := zA hc1_2
 clear hr1_2 hc1_2
 have HB := zA (Below.refl w.heap.size w)
 have H : ((spec_l10Pair.f k a0_0 a0_1 l0_2 a1_0 a1_1 l1_2 a2).bind fun t179 => (if t179 = true then (if a3 < 1 then (spec_Zigzag.j0 k a2 a3 true a0_0 a0_1 l0_2 a1_0 a1_1 l1_2) else (spec_Zigzag.j0 k a2 a3 (decide (a3 > 24)) a0_0 a0_1 l0_2 a1_0 a1_1 l1_2)) else (spec_Zigzag.j0 k a2 a3 true a0_0 a0_1 l0_2 a1_0 a1_1 l1_2))) = some (r1, r2) := h
 clear h
 have HC5 := zA H
 clear H
 go_enter Try.func27, Try.ntmps27
 go_upto_region 1 with (first | ((with_reducible refine gate_dst (N := 4) rfl ?_); refine box_event ?hg (N := 4) ?hd (cs := #[.int .i64 a0_0, .int .i64 a0_1, .slice A0_2 l0_2.length c0_2]) (t := 26) ?hr ?_; (case hd => rfl); (case hg => rfl); (case hr => first | (go_simp; done) | (go_simp; rfl)); intro gb177 hg w6 hbox hb; have n0_ := zA (below_step (bB_ HB) hb); have n1_ := zA (hbox); have n2_ := zA ((by rw [hg]; exact (zT (bB_ HB)) : w.heap.size ≤ gb177)); have n3_ := zA ((by rw [hg]; exact (zT (bB_ HB)) : w.heap.size ≤ gb177)); clear HB; have HB := n0_; have BK177 := n1_; have GW177 := n2_; have GE177 := n3_; clear n0_ n1_ n2_ n3_; clear hb hbox hg) | ((with_reducible refine gate_dst (N := 5) rfl ?_); refine box_event ?hg (N := 5) ?hd (cs := #[.int .i64 a1_0, .int .i64 a1_1, .slice A1_2 l1_2.length c1_2]) (t := 26) ?hr ?_; (case hd => rfl); (case hg => rfl); (case hr => first | (go_simp; done) | (go_simp; rfl)); intro gb178 hg w7 hbox hb; have n0_ := zA (zU (g := gb177) (o := .cells #[.int .i64 a0_0, .int .i64 a0_1, .slice A0_2 l0_2.length c0_2] 26 (0, 0)) (bA_ BK177) hb); have n1_ := zA (below_step (bB_ HB) hb); have n2_ := zA (hbox); have n3_ := zA ((by rw [hg]; exact (zT (bB_ HB)) : w.heap.size ≤ gb178)); have n4_ := zA ((by rw [hg]; exact (zT (bB_ HB)) : w.heap.size ≤ gb178)); have n5_ := zA ((by rw [hg]; exact Nat.ne_of_lt (blk_lt (g := gb177) (o := .cells #[.int .i64 a0_0, .int .i64 a0_1, .slice A0_2 l0_2.length c0_2] 26 (0, 0)) (bA_ BK177)) : gb177 ≠ gb178)); have n6_ := zA ((by rw [hg]; exact Nat.ne_of_gt (blk_lt (g := gb177) (o := .cells #[.int .i64 a0_0, .int .i64 a0_1, .slice A0_2 l0_2.length c0_2] 26 (0, 0)) (bA_ BK177)) : gb178 ≠ gb177)); clear BK177; clear HB; have BK177 := n0_; have HB := n1_; have BK178 := n2_; have GW178 := n3_; have GE178 := n4_; have NB177_178 := n5_; have NB178_177 := n6_; clear n0_ n1_ n2_ n3_ n4_ n5_ n6_; clear hb hbox hg))
 (try simp only [Act.put, zB, zC, zD])
 go_cut [34] (fun v34 wc => ∃ (kq : Nat) (x34_4 : Bool), v34 = .bool x34_4 ∧ Aside0 (spec_Zigzag.j0 kq a2 a3 x34_4 a0_0 a0_1 l0_2 a1_0 a1_1 l1_2 = some (r1, r2)) ∧ Aside0 (kq ≤ k) ∧ Aside0 (wc.heap[gb177]? = some (.cells #[.int .i64 a0_0, .int .i64 a0_1, (.slice A0_2 l0_2.length c0_2)] 26 (0, 0))) ∧ Aside0 (wc.heap[gb178]? = some (.cells #[.int .i64 a1_0, .int .i64 a1_1, (.slice A1_2 l1_2.length c1_2)] 26 (0, 0))) ∧ Aside0 (Below w.heap.size w wc))
 case first =>
  have H := HC5.out
  clear HC5
  replace H := Option.bind_eq_some_iff.mp H
  obtain ⟨t179, A80, H⟩ := H
  replace H : (if t179 = true then (if a3 < 1 then (spec_Zigzag.j0 k a2 a3 true a0_0 a0_1 l0_2 a1_0 a1_1 l1_2) else (spec_Zigzag.j0 k a2 a3 (decide (a3 > 24)) a0_0 a0_1 l0_2 a1_0 a1_1 l1_2)) else (spec_Zigzag.j0 k a2 a3 true a0_0 a0_1 l0_2 a1_0 a1_1 l1_2)) = some (r1, r2) := H
  have A8 := zA A80
  clear A80
  by_cases c9 : t179 = true
  ·subst c9
   have H1 : (if a3 < 1 then (spec_Zigzag.j0 k a2 a3 true a0_0 a0_1 l0_2 a1_0 a1_1 l1_2) else (spec_Zigzag.j0 k a2 a3 (decide (a3 > 24)) a0_0 a0_1 l0_2 a1_0 a1_1 l1_2)) = some (r1, r2) := by rw [if_pos rfl] at H; exact H
   clear H
   have H := H1
   clear H1
   by_cases c10 : a3 < 1
   ·rw [if_pos c10] at H
    have c10b0 : decide (a3 < 1) = true := decide_eq_true c10
    clear c10
    (first | rw [c10b0] | (simp only [i64_w, i32_w]; rw [c10b0]) | skip)
    have H' := zA H
    clear H
    have hnb11 := NB177_178.out
    have hnc11 := NB178_177.out
    have hcz12_0 : w7.cell? ⟨gb177, 0, none⟩ = some (.int .i64 a0_0) := (blk_cell BK177.out 0).trans rfl
    have hcz12_1 : w7.cell? ⟨gb177, 1, none⟩ = some (.int .i64 a0_1) := (blk_cell BK177.out 1).trans rfl
    have hcz12_2 : w7.cell? ⟨gb177, 2, none⟩ = some (.slice A0_2 l0_2.length c0_2) := (blk_cell BK177.out 2).trans rfl
    have hfz12_0 := blk_frozen BK177.out 0
    have hfz12_1 := blk_frozen BK177.out 1
    have hfz12_2 := blk_frozen BK177.out 2
    have hcz13_0 : w7.cell? ⟨gb178, 0, none⟩ = some (.int .i64 a1_0) := (blk_cell BK178.out 0).trans rfl
    have hcz13_1 : w7.cell? ⟨gb178, 1, none⟩ = some (.int .i64 a1_1) := (blk_cell BK178.out 1).trans rfl
    have hcz13_2 : w7.cell? ⟨gb178, 2, none⟩ = some (.slice A1_2 l1_2.length c1_2) := (blk_cell BK178.out 2).trans rfl
    have hfz13_0 := blk_frozen BK178.out 0
    have hfz13_1 := blk_frozen BK178.out 1
    have hfz13_2 := blk_frozen BK178.out 2
    go_wp2_with (first | ((with_reducible refine gate_callee (f := 57) rfl ?_); refine goesL_ (some 25) rfl rfl Try.func57 (by kernel_rfl) rfl #[.agg #[.int .i64 a0_0, .int .i64 a0_1, .slice A0_2 l0_2.length c0_2], .agg #[.int .i64 a1_0, .int .i64 a1_1, .slice A1_2 l1_2.length c1_2], .int .i64 a2] rfl (by (try simp only [List.map_toArray, List.map_cons, List.map_nil]); first | done | rfl | (simp only [List.length_drop, List.length_take]; rfl)) ?_; (with_reducible refine (spec_l10Pair.calls k a0_0 a0_1 _ _ l0_2 a1_0 a1_1 _ _ l1_2 a2 true _ ?side1 ?side2 ?side3 ?side4 A8.out).mono ?_); (case side1 => repeat (first | exact (Kd.C_below HR0_2.out HB.out) | (with_reducible refine zI ?_ _) | (with_reducible refine zH ?_ _) | (with_reducible refine zJ ?_))); (case side2 => exact HC0_2.out); (case side3 => repeat (first | exact (Kd.C_below HR1_2.out HB.out) | (with_reducible refine zI ?_ _) | (with_reducible refine zH ?_ _) | (with_reducible refine zJ ?_))); (case side4 => exact HC1_2.out); rintro e w14 ⟨rfl, hb⟩; refine ⟨_, rfl, ?_⟩; have n0_ := zA (zU (g := gb177) (o := .cells #[.int .i64 a0_0, .int .i64 a0_1, .slice A0_2 l0_2.length c0_2] 26 (0, 0)) (bA_ BK177) hb); have n1_ := zA (zU (g := gb178) (o := .cells #[.int .i64 a1_0, .int .i64 a1_1, .slice A1_2 l1_2.length c1_2] 26 (0, 0)) (bA_ BK178) hb); have n2_ := zA (below_step (bB_ HB) hb); clear BK177; clear BK178; clear HB; have BK177 := n0_; have BK178 := n1_; have HB := n2_; clear n0_ n1_ n2_; (try clear hb); (try clear hb2); (try clear hk); (try clear hi)))
    go_meet
    case rel => exact ⟨_, (true), (by first | rfl | (simp; done) | (simp [*]; done)), H', ⟨by first | omega | exact Nat.le_refl _⟩, ⟨bA_ BK177⟩, ⟨bA_ BK178⟩, ⟨bB_ HB⟩⟩
   ·rw [if_neg c10] at H
    have c10b0 : decide (a3 < 1) = false := decide_eq_false c10
    clear c10
    (first | rw [c10b0] | (simp only [i64_w, i32_w]; rw [c10b0]) | skip)
    have H' := zA H
    clear H
    have hnb15 := NB177_178.out
    have hnc15 := NB178_177.out
    have hcz16_0 : w7.cell? ⟨gb177, 0, none⟩ = some (.int .i64 a0_0) := (blk_cell BK177.out 0).trans rfl
    have hcz16_1 : w7.cell? ⟨gb177, 1, none⟩ = some (.int .i64 a0_1) := (blk_cell BK177.out 1).trans rfl
    have hcz16_2 : w7.cell? ⟨gb177, 2, none⟩ = some (.slice A0_2 l0_2.length c0_2) := (blk_cell BK177.out 2).trans rfl
    have hfz16_0 := blk_frozen BK177.out 0
    have hfz16_1 := blk_frozen BK177.out 1
    have hfz16_2 := blk_frozen BK177.out 2
    have hcz17_0 : w7.cell? ⟨gb178, 0, none⟩ = some (.int .i64 a1_0) := (blk_cell BK178.out 0).trans rfl
    have hcz17_1 : w7.cell? ⟨gb178, 1, none⟩ = some (.int .i64 a1_1) := (blk_cell BK178.out 1).trans rfl
    have hcz17_2 : w7.cell? ⟨gb178, 2, none⟩ = some (.slice A1_2 l1_2.length c1_2) := (blk_cell BK178.out 2).trans rfl
    have hfz17_0 := blk_frozen BK178.out 0
    have hfz17_1 := blk_frozen BK178.out 1
    have hfz17_2 := blk_frozen BK178.out 2
    go_wp2_with (first | ((with_reducible refine gate_callee (f := 57) rfl ?_); refine goesL_ (some 25) rfl rfl Try.func57 (by kernel_rfl) rfl #[.agg #[.int .i64 a0_0, .int .i64 a0_1, .slice A0_2 l0_2.length c0_2], .agg #[.int .i64 a1_0, .int .i64 a1_1, .slice A1_2 l1_2.length c1_2], .int .i64 a2] rfl (by (try simp only [List.map_toArray, List.map_cons, List.map_nil]); first | done | rfl | (simp only [List.length_drop, List.length_take]; rfl)) ?_; (with_reducible refine (spec_l10Pair.calls k a0_0 a0_1 _ _ l0_2 a1_0 a1_1 _ _ l1_2 a2 true _ ?side1 ?side2 ?side3 ?side4 A8.out).mono ?_); (case side1 => repeat (first | exact (Kd.C_below HR0_2.out HB.out) | (with_reducible refine zI ?_ _) | (with_reducible refine zH ?_ _) | (with_reducible refine zJ ?_))); (case side2 => exact HC0_2.out); (case side3 => repeat (first | exact (Kd.C_below HR1_2.out HB.out) | (with_reducible refine zI ?_ _) | (with_reducible refine zH ?_ _) | (with_reducible refine zJ ?_))); (case side4 => exact HC1_2.out); rintro e w18 ⟨rfl, hb⟩; refine ⟨_, rfl, ?_⟩; have n0_ := zA (zU (g := gb177) (o := .cells #[.int .i64 a0_0, .int .i64 a0_1, .slice A0_2 l0_2.length c0_2] 26 (0, 0)) (bA_ BK177) hb); have n1_ := zA (zU (g := gb178) (o := .cells #[.int .i64 a1_0, .int .i64 a1_1, .slice A1_2 l1_2.length c1_2] 26 (0, 0)) (bA_ BK178) hb); have n2_ := zA (below_step (bB_ HB) hb); clear BK177; clear BK178; clear HB; have BK177 := n0_; have BK178 := n1_; have HB := n2_; clear n0_ n1_ n2_; (try clear hb); (try clear hb2); (try clear hk); (try clear hi)))
    go_meet
    case rel => exact ⟨_, (decide (a3 > 24)), (by first | rfl | (simp; done) | (simp [*]; done)), H', ⟨by first | omega | exact Nat.le_refl _⟩, ⟨bA_ BK177⟩, ⟨bA_ BK178⟩, ⟨bB_ HB⟩⟩
  ·replace c9 := Bool.eq_false_iff.mpr c9
   subst c9
   have H1 : (spec_Zigzag.j0 k a2 a3 true a0_0 a0_1 l0_2 a1_0 a1_1 l1_2) = some (r1, r2) := by rw [if_neg (show ¬ (false = true) by decide)] at H; exact H
   clear H
   have H := H1
   clear H1
   have H' := zA H
   clear H
   have hnb19 := NB177_178.out
   have hnc19 := NB178_177.out
   have hcz20_0 : w7.cell? ⟨gb177, 0, none⟩ = some (.int .i64 a0_0) := (blk_cell BK177.out 0).trans rfl
   have hcz20_1 : w7.cell? ⟨gb177, 1, none⟩ = some (.int .i64 a0_1) := (blk_cell BK177.out 1).trans rfl
   have hcz20_2 : w7.cell? ⟨gb177, 2, none⟩ = some (.slice A0_2 l0_2.length c0_2) := (blk_cell BK177.out 2).trans rfl
   have hfz20_0 := blk_frozen BK177.out 0
   have hfz20_1 := blk_frozen BK177.out 1
   have hfz20_2 := blk_frozen BK177.out 2
   have hcz21_0 : w7.cell? ⟨gb178, 0, none⟩ = some (.int .i64 a1_0) := (blk_cell BK178.out 0).trans rfl
   have hcz21_1 : w7.cell? ⟨gb178, 1, none⟩ = some (.int .i64 a1_1) := (blk_cell BK178.out 1).trans rfl
   have hcz21_2 : w7.cell? ⟨gb178, 2, none⟩ = some (.slice A1_2 l1_2.length c1_2) := (blk_cell BK178.out 2).trans rfl
   have hfz21_0 := blk_frozen BK178.out 0
   have hfz21_1 := blk_frozen BK178.out 1
   have hfz21_2 := blk_frozen BK178.out 2
   go_wp2_with (first | ((with_reducible refine gate_callee (f := 57) rfl ?_); refine goesL_ (some 25) rfl rfl Try.func57 (by kernel_rfl) rfl #[.agg #[.int .i64 a0_0, .int .i64 a0_1, .slice A0_2 l0_2.length c0_2], .agg #[.int .i64 a1_0, .int .i64 a1_1, .slice A1_2 l1_2.length c1_2], .int .i64 a2] rfl (by (try simp only [List.map_toArray, List.map_cons, List.map_nil]); first | done | rfl | (simp only [List.length_drop, List.length_take]; rfl)) ?_; (with_reducible refine (spec_l10Pair.calls k a0_0 a0_1 _ _ l0_2 a1_0 a1_1 _ _ l1_2 a2 false _ ?side1 ?side2 ?side3 ?side4 A8.out).mono ?_); (case side1 => repeat (first | exact (Kd.C_below HR0_2.out HB.out) | (with_reducible refine zI ?_ _) | (with_reducible refine zH ?_ _) | (with_reducible refine zJ ?_))); (case side2 => exact HC0_2.out); (case side3 => repeat (first | exact (Kd.C_below HR1_2.out HB.out) | (with_reducible refine zI ?_ _) | (with_reducible refine zH ?_ _) | (with_reducible refine zJ ?_))); (case side4 => exact HC1_2.out); rintro e w22 ⟨rfl, hb⟩; refine ⟨_, rfl, ?_⟩; have n0_ := zA (zU (g := gb177) (o := .cells #[.int .i64 a0_0, .int .i64 a0_1, .slice A0_2 l0_2.length c0_2] 26 (0, 0)) (bA_ BK177) hb); have n1_ := zA (zU (g := gb178) (o := .cells #[.int .i64 a1_0, .int .i64 a1_1, .slice A1_2 l1_2.length c1_2] 26 (0, 0)) (bA_ BK178) hb); have n2_ := zA (below_step (bB_ HB) hb); clear BK177; clear BK178; clear HB; have BK177 := n0_; have BK178 := n1_; have HB := n2_; clear n0_ n1_ n2_; (try clear hb); (try clear hb2); (try clear hk); (try clear hi)))
   go_meet
   case rel => exact ⟨_, (true), (by first | rfl | (simp; done) | (simp [*]; done)), H', ⟨by first | omega | exact Nat.le_refl _⟩, ⟨bA_ BK177⟩, ⟨bA_ BK178⟩, ⟨bB_ HB⟩⟩
 case rest =>
  clear HC5
  try clear c1
  try clear c2
  try clear p2
  try clear c5
  try clear c9
  try clear c10
  try clear c10b0
  try clear c11
  try clear c15
  try clear c19
  try clear hcz12_0
  try clear hcz12_1
  try clear hcz12_2
  try clear hcz13_0
  try clear hcz13_1
  try clear hcz13_2
  try clear hcz16_0
  try clear hcz16_1
  try clear hcz16_2
  try clear hcz17_0
  try clear hcz17_1
  try clear hcz17_2
  try clear hcz20_0
  try clear hcz20_1
  try clear hcz20_2
  try clear hcz21_0
  try clear hcz21_1
  try clear hcz21_2
  try clear hfz12_0
  try clear hfz12_1
  try clear hfz12_2
  try clear hfz13_0
  try clear hfz13_1
  try clear hfz13_2
  try clear hfz16_0
  try clear hfz16_1
  try clear hfz16_2
  try clear hfz17_0
  try clear hfz17_1
  try clear hfz17_2
  try clear hfz20_0
  try clear hfz20_1
  try clear hfz20_2
  try clear hfz21_0
  try clear hfz21_1
  try clear hfz21_2
  obtain ⟨kq, x34_4, rfl, HA, HJ4, BK177, BK178, HB⟩ := hcut
  cases kq with
  | zero => exact absurd HA.out (by simp [spec_Zigzag.j0])
  | succ kj4 =>
   have H := HA.out
   clear HA
   simp only [spec_Zigzag.j0] at H
   by_cases c23 : x34_4 = true
   ·subst c23
    have H1 : (some ((([] : List (S61))), 1)) = some (r1, r2) := by rw [if_pos rfl] at H; exact H
    clear H
    have H := H1
    clear H1
    obtain ⟨y180, hy180⟩ : ∃ y_ : List (S61), y_ = (([] : List (S61))) := ⟨_, rfl⟩
    replace H : (some (y180, 1)) = some (r1, r2) := by first | (rw [hy180]; with_reducible exact H) | (have H2_ := (Option.bind_some _ _).symm.trans H; rw [hy180]; with_reducible exact H2_) | (have H2_ := (Option.bind_some _ _).symm.trans H; with_reducible exact H2_) | with_reducible exact H | (rw [hy180]; exact H) | exact H
    have Ny180 := zA hy180
    clear hy180
    simp only [Option.some.injEq, Prod.mk.injEq] at H
    obtain ⟨rfl, rfl⟩ := H
    go_wp2_with (first | ((with_reducible refine gate_dst (N := 35) rfl ?_); refine Kd.R_lit k61 _ 61 ?hg (N := 35) ?hd (xs := ([] : List (S61))) (inner := []) (ok := fun _ => True) (okp := fun _ => True) ?hr ?hp (fun _ hk => hk) trivial (Below.refl _ _) (Nat.le_refl _) (by simp) ?_; (case hd => rfl); (case hg => rfl); (case hr => first | (go_simp; done) | (go_simp; rfl)); (case hp => exact (Reps.none _ _)); intro v181 w24 ho25 hb hg_ hnew_; clear hg_ hnew_; (first | rw [← Ny180.out] at ho25 | (simp only [Int.reduceToNat] at ho25; rw [← Ny180.out] at ho25)); have n0_ := zA (Kd.R_lower ho25 (zT (bB_ HB))); have n1_ := zA (zU (g := gb177) (o := .cells #[.int .i64 a0_0, .int .i64 a0_1, .slice A0_2 l0_2.length c0_2] 26 (0, 0)) (bA_ BK177) hb); have n2_ := zA (zU (g := gb178) (o := .cells #[.int .i64 a1_0, .int .i64 a1_1, .slice A1_2 l1_2.length c1_2] 26 (0, 0)) (bA_ BK178) hb); have n3_ := zA (below_step (bB_ HB) hb); clear BK177; clear BK178; clear HB; have HO182 := n0_; have BK177 := n1_; have BK178 := n2_; have HB := n3_; clear n0_ n1_ n2_ n3_; clear hb ho25))
    go_ret2
    exact ⟨_, by first | rfl | (simp [errW_none, errW_some] <;> rfl) | (simp [*, errW_none, errW_some] <;> rfl), bC_ HO182, bB_ HB⟩
   ·replace c23 := Bool.eq_false_iff.mpr c23
    subst c23
    have H1 : ((spec_l10Lowest.f kj4 a1_0 a1_1 l1_2 a2).bind fun t183 => ((some (([] : List Int) : List Int)).bind fun y186 => (if y186.length + l0_2.length < 17592186044416 then ((spec_l11Levels.f kj4 a3).bind fun t196 => (spec_Zigzag.l0 kj4 t183 t196 0 a1_0 a1_1 l1_2 a1_0 a1_1 l1_2 a2 (y186 ++ l0_2) 0 (([(⟨true, 0, 0, 24⟩ : S61)] : List (S61))))) else (none)))) = some (r1, r2) := by rw [if_neg (show ¬ (false = true) by decide)] at H; exact H
    clear H
    have H := H1
    clear H1
    replace H := Option.bind_eq_some_iff.mp H
    obtain ⟨t183, A260, H⟩ := H
    replace H : ((some (([] : List Int) : List Int)).bind fun y186 => (if y186.length + l0_2.length < 17592186044416 then ((spec_l11Levels.f kj4 a3).bind fun t196 => (spec_Zigzag.l0 kj4 t183 t196 0 a1_0 a1_1 l1_2 a1_0 a1_1 l1_2 a2 (y186 ++ l0_2) 0 (([(⟨true, 0, 0, 24⟩ : S61)] : List (S61))))) else (none))) = some (r1, r2) := H
    have A26 := zA A260
    clear A260
    obtain ⟨y186, hy186⟩ : ∃ y_ : List Int, y_ = (([] : List Int)) := ⟨_, rfl⟩
    replace H : (if y186.length + l0_2.length < 17592186044416 then ((spec_l11Levels.f kj4 a3).bind fun t196 => (spec_Zigzag.l0 kj4 t183 t196 0 a1_0 a1_1 l1_2 a1_0 a1_1 l1_2 a2 (y186 ++ l0_2) 0 (([(⟨true, 0, 0, 24⟩ : S61)] : List (S61))))) else (none)) = some (r1, r2) := by first | (rw [hy186]; with_reducible exact H) | (have H2_ := (Option.bind_some _ _).symm.trans H; rw [hy186]; with_reducible exact H2_) | (have H2_ := (Option.bind_some _ _).symm.trans H; with_reducible exact H2_) | with_reducible exact H | (rw [hy186]; exact H) | exact H
    have Ny186 := zA hy186
    clear hy186
    by_cases c27 : y186.length + l0_2.length < 17592186044416
    ·rw [if_pos c27] at H
     have LMc27 := zA c27
     clear c27
     obtain ⟨y189, hy189⟩ : ∃ y_ : List Int, y_ = (y186 ++ l0_2) := ⟨_, rfl⟩
     replace H : ((spec_l11Levels.f kj4 a3).bind fun t196 => (spec_Zigzag.l0 kj4 t183 t196 0 a1_0 a1_1 l1_2 a1_0 a1_1 l1_2 a2 y189 0 (([(⟨true, 0, 0, 24⟩ : S61)] : List (S61))))) = some (r1, r2) := by first | (rw [hy189]; with_reducible exact H) | (have H2_ := (Option.bind_some _ _).symm.trans H; rw [hy189]; with_reducible exact H2_) | (have H2_ := (Option.bind_some _ _).symm.trans H; with_reducible exact H2_) | with_reducible exact H | (rw [hy189]; exact H) | exact H
     have Ny189 := zA hy189
     clear hy189
     obtain ⟨y192, hy192⟩ : ∃ y_ : List (S61), y_ = (([(⟨true, 0, 0, 24⟩ : S61)] : List (S61))) := ⟨_, rfl⟩
     replace H : ((spec_l11Levels.f kj4 a3).bind fun t196 => (spec_Zigzag.l0 kj4 t183 t196 0 a1_0 a1_1 l1_2 a1_0 a1_1 l1_2 a2 y189 0 y192)) = some (r1, r2) := by first | (rw [hy192]; with_reducible exact H) | (have H2_ := (Option.bind_some _ _).symm.trans H; rw [hy192]; with_reducible exact H2_) | (have H2_ := (Option.bind_some _ _).symm.trans H; with_reducible exact H2_) | with_reducible exact H | (rw [hy192]; exact H) | exact H
     have Ny192 := zA hy192
     clear hy192
     replace H := Option.bind_eq_some_iff.mp H
     obtain ⟨t196, A280, H⟩ := H
     replace H : (spec_Zigzag.l0 kj4 t183 t196 0 a1_0 a1_1 l1_2 a1_0 a1_1 l1_2 a2 y189 0 y192) = some (r1, r2) := H
     have A28 := zA A280
     clear A280
     have H' := zA H
     clear H
     have hnb29 := NB178_177.out
     have hnc29 := NB177_178.out
     have hcz30_0 : wc.cell? ⟨gb178, 0, none⟩ = some (.int .i64 a1_0) := (blk_cell BK178.out 0).trans rfl
     have hcz30_1 : wc.cell? ⟨gb178, 1, none⟩ = some (.int .i64 a1_1) := (blk_cell BK178.out 1).trans rfl
     have hcz30_2 : wc.cell? ⟨gb178, 2, none⟩ = some (.slice A1_2 l1_2.length c1_2) := (blk_cell BK178.out 2).trans rfl
     have hfz30_0 := blk_frozen BK178.out 0
     have hfz30_1 := blk_frozen BK178.out 1
     have hfz30_2 := blk_frozen BK178.out 2
     try go_wp2_with (first | ((with_reducible refine gate_callee (f := 41) rfl ?_); refine goesL_ (some 38) rfl rfl Try.func41 (by kernel_rfl) rfl #[.agg #[.int .i64 a1_0, .int .i64 a1_1, .slice A1_2 l1_2.length c1_2], .int .i64 a2] rfl (by (try simp only [List.map_toArray, List.map_cons, List.map_nil]); first | done | rfl | (simp only [List.length_drop, List.length_take]; rfl)) ?_; (with_reducible refine (spec_l10Lowest.calls kj4 a1_0 a1_1 _ _ l1_2 a2 t183 _ ?side1 ?side2 A26.out).mono ?_); (case side1 => repeat (first | exact (Kd.C_below HR1_2.out HB.out) | (with_reducible refine zI ?_ _) | (with_reducible refine zH ?_ _) | (with_reducible refine zJ ?_))); (case side2 => exact HC1_2.out); rintro e w31 ⟨v184, rfl, ho0, hb⟩; refine ⟨_, rfl, ?_⟩; have n0_ := zA (Kd.R_lower ho0 (zT (bB_ HB))); have n1_ := zA (zU (g := gb177) (o := .cells #[.int .i64 a0_0, .int .i64 a0_1, .slice A0_2 l0_2.length c0_2] 26 (0, 0)) (bA_ BK177) hb); have n2_ := zA (zU (g := gb178) (o := .cells #[.int .i64 a1_0, .int .i64 a1_1, .slice A1_2 l1_2.length c1_2] 26 (0, 0)) (bA_ BK178) hb); have n3_ := zA (below_step (bB_ HB) hb); clear BK177; clear BK178; clear HB; have HO185 := n0_; have BK177 := n1_; have BK178 := n2_; have HB := n3_; clear n0_ n1_ n2_ n3_; (try clear hb); (try clear hb2); (try clear hk); (try clear hi); (try clear ho0)))
     have n0_ := zA (zG HO185.out)
     have n1_ := zA (zN BK177.out)
     have n2_ := zA (zN BK178.out)
     have n3_ := zA (zQ HB.out)
     clear HO185
     clear BK177
     clear BK178
     clear HB
     have HO185 := n0_
     have BK177 := n1_
     have BK178 := n2_
     have HB := n3_
     clear n0_ n1_ n2_ n3_
     refine start_ (n := 11) (S := fun w' => w'.cell? ⟨gb178, 0, none⟩ = some (.int .i64 a1_0) ∧ w'.cell? ⟨gb178, 1, none⟩ = some (.int .i64 a1_1) ∧ w'.cell? ⟨gb178, 2, none⟩ = some (.slice A1_2 l1_2.length c1_2) ∧ w'.cell? ⟨gb177, 0, none⟩ = some (.int .i64 a0_0) ∧ w'.cell? ⟨gb177, 1, none⟩ = some (.int .i64 a0_1) ∧ w'.cell? ⟨gb177, 2, none⟩ = some (.slice A0_2 l0_2.length c0_2)) (ds := []) #[false, false, false, false, false, false, false, false, false, false, false] (by kernel_rfl) rfl rfl ⟨(blk_cell BK178.out 0).trans rfl, (blk_cell BK178.out 1).trans rfl, (blk_cell BK178.out 2).trans rfl, (blk_cell BK177.out 0).trans rfl, (blk_cell BK177.out 1).trans rfl, (blk_cell BK177.out 2).trans rfl⟩ (fun hHeld => ?_); refine with_tabW spec_Zigzag.tab4 spec_Zigzag.bits4 (fun HT_ HW_ => ?_)
     generalize w31.drew = w32 at HO185 BK177 BK178 HB hHeld ⊢
     refine pure_ (i := 1) (N := some 40) (v := ?_) (a' := ?_) #[false, true, false, false, false, false, false, false, false, false, false] rfl rfl (any_of HT_.out (by kernel_rfl)) (fun _ _ _ h => h) (Or.inl ⟨by rfl, ?_⟩) ?_ ?_
     rotate_left
     ·intro w'
      go_simp
      with_reducible rfl
     rotate_left
     ·simp only [Act.put, zB, zC, zD, i64_w, i32_w]
      rfl
     refine pure_ (i := 3) (N := some 42) (v := ?_) (a' := ?_) #[false, true, false, true, false, false, false, false, false, false, false] rfl rfl (any_of HT_.out (by kernel_rfl)) (fun _ _ _ h => h) (Or.inl ⟨by rfl, ?_⟩) ?_ ?_
     rotate_left
     ·intro w'
      go_simp
      with_reducible rfl
     rotate_left
     ·simp only [Act.put, zB, zC, zD, i64_w, i32_w]
      rfl
     refine pure_ (i := 6) (N := some 45) (v := ?_) (a' := ?_) #[false, true, false, true, false, false, true, false, false, false, false] rfl rfl (any_of HT_.out (by kernel_rfl)) (fun _ _ _ h => h) (Or.inl ⟨by rfl, ?_⟩) ?_ ?_
     rotate_left
     ·intro w'
      go_simp
      with_reducible rfl
     rotate_left
     ·simp only [Act.put, zB, zC, zD, i64_w, i32_w]
      rfl
     refine take_ (i := 0) (N := some 39) (v := ?_) (a' := ?_) #[true, true, false, true, false, false, true, false, false, false, false] rfl rfl (take_ofW HT_.out HW_.out (by kernel_rfl)) (fun _ _ _ h => h) (Or.inl ⟨by rfl, ?_⟩) hHeld ?_ ?_
     rotate_left
     ·rintro w' ⟨s0, s1, s2, s3, s4, s5⟩
      go_simp
      with_reducible rfl
     rotate_left
     ·simp only [Act.put, zB, zC, zD, i64_w, i32_w]
      rfl
     refine take_ (i := 4) (N := some 43) (v := ?_) (a' := ?_) #[true, true, false, true, true, false, true, false, false, false, false] rfl rfl (take_ofW HT_.out HW_.out (by kernel_rfl)) (fun _ _ _ h => h) (Or.inl ⟨by rfl, ?_⟩) hHeld ?_ ?_
     rotate_left
     ·rintro w' ⟨s0, s1, s2, s3, s4, s5⟩
      go_simp
      with_reducible rfl
     rotate_left
     ·simp only [Act.put, zB, zC, zD, i64_w, i32_w]
      rfl
     refine join_ (σ := Value × Value × Value) 3 #[true, true, true, true, true, true, true, true, false, false, false] (fun s_ => [(41, s_.1), (44, s_.2.1), (46, s_.2.2)]) (fun s_ w' => (w'.cell? ⟨gb178, 0, none⟩ = some (.int .i64 a1_0) ∧ w'.cell? ⟨gb178, 1, none⟩ = some (.int .i64 a1_1) ∧ w'.cell? ⟨gb178, 2, none⟩ = some (.slice A1_2 l1_2.length c1_2) ∧ w'.cell? ⟨gb177, 0, none⟩ = some (.int .i64 a0_0) ∧ w'.cell? ⟨gb177, 1, none⟩ = some (.int .i64 a0_1) ∧ w'.cell? ⟨gb177, 2, none⟩ = some (.slice A0_2 l0_2.length c0_2)) ∧ (Kd.R (Kd.int .i64) 3 w' w.heap.size (fun k_ => some k_ ≠ (s_.2.1 : Value).ownBlock) v184 t183) ∧ (Kd.R (Kd.int .i64) 3 w' w.heap.size (fun k_ => some k_ ≠ (v184 : Value).ownBlock) s_.2.1 y189) ∧ (Kd.R k61 61 w' w.heap.size (fun _ => True) s_.2.2 y192) ∧ (w'.heap[gb177]? = some (.cells #[.int .i64 a0_0, .int .i64 a0_1, .slice A0_2 l0_2.length c0_2] 26 (0, 0))) ∧ (w'.heap[gb178]? = some (.cells #[.int .i64 a1_0, .int .i64 a1_1, .slice A1_2 l1_2.length c1_2] 26 (0, 0))) ∧ (Below w.heap.size w w')) ?_ ?_
     rotate_left
     ·intro hCont
      refine two_ (i := 2) (j := 7) (Ni := some 41) (Nj := some 46) #[true, true, true, true, true, false, true, false, false, false, false] #[true, true, false, true, true, false, true, true, false, false, false] rfl rfl rfl rfl (two_of HT_.out (by kernel_rfl)) (by decide) (by decide) (fun K hK => ?_) (fun K hK => ?_)
      ·skip
       refine Kd.R_lit_step (Kd.int .i64) _ 3 ?hg (N := 41) ?hd (xs := ([] : List Int)) (inner := []) (ok := fun _ => True) (okp := fun _ => True) ?hr ?hp (fun _ hk => hk) trivial (Below.refl _ _) (Nat.le_refl _) (by simp) ?_; (case hd => rfl); (case hg => rfl); (case hr => first | (go_simp; done) | (go_simp; rfl)); (case hp => exact (Reps.none _ _))
       intro v187 w33 ho34 hb hg_ hnew_
       clear hg_ hnew_
       (first | rw [← Ny186.out] at ho34 | (simp only [Int.reduceToNat] at ho34; rw [← Ny186.out] at ho34))
       have n0_ := zA (Kd.R_elder' (bC_ HO185) (Kd.R_base ho34) hb)
       have n1_ := zA (Kd.R_lower (Kd.R_new' ho34 (Kd.R_lt (bC_ HO185))) (zT (bB_ HB)))
       have n2_ := zA (zU (g := gb177) (o := .cells #[.int .i64 a0_0, .int .i64 a0_1, .slice A0_2 l0_2.length c0_2] 26 (0, 0)) (bA_ BK177) hb)
       have n3_ := zA (zU (g := gb178) (o := .cells #[.int .i64 a1_0, .int .i64 a1_1, .slice A1_2 l1_2.length c1_2] 26 (0, 0)) (bA_ BK178) hb)
       have n4_ := zA (below_step (bB_ HB) hb)
       clear HO185
       clear BK177
       clear BK178
       clear HB
       have HO185 := n0_
       have HO188 := n1_
       have BK177 := n2_
       have BK178 := n3_
       have HB := n4_
       clear n0_ n1_ n2_ n3_ n4_
       clear hb ho34
       refine hK.out _ _ ⟨(blk_cell BK178.out 0).trans rfl, (blk_cell BK178.out 1).trans rfl, (blk_cell BK178.out 2).trans rfl, (blk_cell BK177.out 0).trans rfl, (blk_cell BK177.out 1).trans rfl, (blk_cell BK177.out 2).trans rfl⟩ (fun hHeld => ?_)
       clear hK K
       refine norm_ (a' := ?_) ?_ ?_
       rotate_left
       ·show Act.put _ (some 41) _ = _
        simp only [Act.put, zB, zC, zD, i64_w, i32_w]
        rfl
       refine two_ (i := 5) (j := 7) (Ni := some 44) (Nj := some 46) #[true, true, true, true, true, true, true, false, false, false, false] #[true, true, true, true, true, false, true, true, false, false, false] rfl rfl rfl rfl (two_of HT_.out (by kernel_rfl)) (by decide) (by decide) (fun K hK => ?_) (fun K hK => ?_)
       ·skip
        refine Kd.R_append_rows_step (Kd.int .i64) (w0 := w) w.heap.size (by rfl) (.tmp 41) (.tmp 43) 22 3 (.int .i64 0) 8 rfl Try.underlying22 info3 rfl (by decide) (by omega) v187 y186 l0_2 _ _ _ (fun k_ => some k_ ≠ (v184 : Value).ownBlock) (fun _ => False) rfl rfl ?aO ?aR (fun _ _ h => h) (fun _ h => h.elim) ?aF ?aB ?aS ?aL ?_
        (case aR => repeat (first | exact (Kd.C_below HR0_2.out HB.out) | (with_reducible refine zI ?_ _) | (with_reducible refine zH ?_ _) | (with_reducible refine zJ ?_)))
        (case aB => exact (bB_ HB))
        (case aF => exact (fun k_ hk => Kd.fresh' (Kd.R_lt (bC_ HO185)) k_ hk))
        (case aO => exact (by (with_reducible repeat (first | apply zF | apply zE | apply zG)); exact Kd.R_mono HO188.out (fun _ hk => hk.2)))
        (case aS => exact (zT (bB_ HB)))
        (case aL => have := LMc27.out; omega)
        intro v190 w35 ho hb hg hat
        rw [← Ny189.out] at ho
        have n0_ := zA (blk_grown (g := gb177) (o := .cells #[.int .i64 a0_0, .int .i64 a0_1, .slice A0_2 l0_2.length c0_2] 26 (0, 0)) (bA_ BK177) hg (Kd.R_ne HO188.out BK177.out (by decide)))
        have n1_ := zA (blk_grown (g := gb178) (o := .cells #[.int .i64 a1_0, .int .i64 a1_1, .slice A1_2 l1_2.length c1_2] 26 (0, 0)) (bA_ BK178) hg (Kd.R_ne HO188.out BK178.out (by decide)))
        have n2_ := zA (Kd.R_after (ok := (fun _ => True)) (bC_ HO185) hg hat)
        have n3_ := zA (hb)
        have n4_ := zA (ho)
        clear BK177
        clear BK178
        clear HO185
        clear HB
        clear HO188
        have BK177 := n0_
        have BK178 := n1_
        have HO185 := n2_
        have HB := n3_
        have HO191 := n4_
        clear n0_ n1_ n2_ n3_ n4_
        clear ho hb hg hat
        refine hK.out _ _ ⟨(blk_cell BK178.out 0).trans rfl, (blk_cell BK178.out 1).trans rfl, (blk_cell BK178.out 2).trans rfl, (blk_cell BK177.out 0).trans rfl, (blk_cell BK177.out 1).trans rfl, (blk_cell BK177.out 2).trans rfl⟩ (fun hHeld => ?_)
        clear hK K
        refine norm_ (a' := ?_) ?_ ?_
        rotate_left
        ·show Act.put _ (some 44) _ = _
         simp only [Act.put, zB, zC, zD, i64_w, i32_w]
         rfl
        refine one_ (i := 7) (N := some 46) #[true, true, true, true, true, true, true, true, false, false, false] rfl rfl (one_of HT_.out (by kernel_rfl)) (by decide) (fun K hK => ?_)
        refine Kd.R_lit_step k61 _ 61 ?hg (N := 46) ?hd (xs := ([(⟨true, 0, 0, 24⟩ : S61)] : List (S61))) (inner := [.bool true, .int .i64 0, .int .i64 0, .int .i64 24]) (ok := fun _ => True) (okp := fun _ => True) ?hr ?hp (fun _ hk => hk) trivial (Below.refl _ _) (Nat.le_refl _) (by simp) ?_; (case hd => rfl); (case hg => rfl); (case hr => first | (go_simp; done) | (go_simp; rfl)); (case hp => exact (Reps.c4 (show Kd.M k61 _ _ _ (⟨true, 0, 0, 24⟩ : S61) [.bool true, .int .i64 0, .int .i64 0, .int .i64 24] from (k61_mkM _ _ _ (⟨true, 0, 0, 24⟩ : S61) )) (Reps.none _ _)))
        intro v193 w36 ho37 hb hg_ hnew_
        clear hg_ hnew_
        (first | rw [← Ny192.out] at ho37 | (simp only [Int.reduceToNat] at ho37; rw [← Ny192.out] at ho37))
        have n0_ := zA (zL (bC_ HO185) hb)
        have n1_ := zA (zL (bC_ HO191) hb)
        have n2_ := zA (Kd.R_lower ho37 (zT (bB_ HB)))
        have n3_ := zA (zU (g := gb177) (o := .cells #[.int .i64 a0_0, .int .i64 a0_1, .slice A0_2 l0_2.length c0_2] 26 (0, 0)) (bA_ BK177) hb)
        have n4_ := zA (zU (g := gb178) (o := .cells #[.int .i64 a1_0, .int .i64 a1_1, .slice A1_2 l1_2.length c1_2] 26 (0, 0)) (bA_ BK178) hb)
        have n5_ := zA (below_step (bB_ HB) hb)
        clear HO185
        clear HO191
        clear BK177
        clear BK178
        clear HB
        have HO185 := n0_
        have HO191 := n1_
        have HO194 := n2_
        have BK177 := n3_
        have BK178 := n4_
        have HB := n5_
        clear n0_ n1_ n2_ n3_ n4_ n5_
        clear hb ho37
        obtain ⟨Ao38, co38, eo38⟩ := Kd.R_slice HO194.out
        (first | subst eo38 | (injection eo38 with f1_ f2_ f3_; have f4_ := f1_.symm; have f5_ := f3_.symm; clear f1_ f2_ f3_; subst f4_; subst f5_))
        obtain ⟨Ao39, co39, eo39⟩ := Kd.R_slice HO191.out
        (first | subst eo39 | (injection eo39 with f1_ f2_ f3_; have f4_ := f1_.symm; have f5_ := f3_.symm; clear f1_ f2_ f3_; subst f4_; subst f5_))
        refine hK.out _ _ ⟨(blk_cell BK178.out 0).trans rfl, (blk_cell BK178.out 1).trans rfl, (blk_cell BK178.out 2).trans rfl, (blk_cell BK177.out 0).trans rfl, (blk_cell BK177.out 1).trans rfl, (blk_cell BK177.out 2).trans rfl⟩ (fun hHeld => ?_)
        clear hK K
        refine norm_ (a' := ?_) ?_ ?_
        rotate_left
        ·show Act.put _ (some 46) _ = _
         simp only [Act.put, zB, zC, zD, i64_w, i32_w]
         rfl
        exact norm_ (by simp only [putAll, Act.put, zB, zC, zD]) (hCont (v187, .slice Ao39 y189.length co39, .slice Ao38 y192.length co38) _ ⟨hHeld, (by (with_reducible repeat (first | apply zF | apply zE | apply zG)); exact Kd.R_mono HO185.out (fun _ hk => hk.2)), (bC_ HO191), (bC_ HO194), (bA_ BK177), (bA_ BK178), (bB_ HB)⟩)
       ·skip
        refine Kd.R_lit_step k61 _ 61 ?hg (N := 46) ?hd (xs := ([(⟨true, 0, 0, 24⟩ : S61)] : List (S61))) (inner := [.bool true, .int .i64 0, .int .i64 0, .int .i64 24]) (ok := fun _ => True) (okp := fun _ => True) ?hr ?hp (fun _ hk => hk) trivial (Below.refl _ _) (Nat.le_refl _) (by simp) ?_; (case hd => rfl); (case hg => rfl); (case hr => first | (go_simp; done) | (go_simp; rfl)); (case hp => exact (Reps.c4 (show Kd.M k61 _ _ _ (⟨true, 0, 0, 24⟩ : S61) [.bool true, .int .i64 0, .int .i64 0, .int .i64 24] from (k61_mkM _ _ _ (⟨true, 0, 0, 24⟩ : S61) )) (Reps.none _ _)))
        intro v193 w35 ho36 hb hg_ hnew_
        clear hg_ hnew_
        (first | rw [← Ny192.out] at ho36 | (simp only [Int.reduceToNat] at ho36; rw [← Ny192.out] at ho36))
        have n0_ := zA (zL (bC_ HO185) hb)
        have n1_ := zA (zL (bC_ HO188) hb)
        have n2_ := zA (Kd.R_lower ho36 (zT (bB_ HB)))
        have n3_ := zA (zU (g := gb177) (o := .cells #[.int .i64 a0_0, .int .i64 a0_1, .slice A0_2 l0_2.length c0_2] 26 (0, 0)) (bA_ BK177) hb)
        have n4_ := zA (zU (g := gb178) (o := .cells #[.int .i64 a1_0, .int .i64 a1_1, .slice A1_2 l1_2.length c1_2] 26 (0, 0)) (bA_ BK178) hb)
        have n5_ := zA (below_step (bB_ HB) hb)
        clear HO185
        clear HO188
        clear BK177
        clear BK178
        clear HB
        have HO185 := n0_
        have HO188 := n1_
        have HO194 := n2_
        have BK177 := n3_
        have BK178 := n4_
        have HB := n5_
        clear n0_ n1_ n2_ n3_ n4_ n5_
        clear hb ho36
        refine hK.out _ _ ⟨(blk_cell BK178.out 0).trans rfl, (blk_cell BK178.out 1).trans rfl, (blk_cell BK178.out 2).trans rfl, (blk_cell BK177.out 0).trans rfl, (blk_cell BK177.out 1).trans rfl, (blk_cell BK177.out 2).trans rfl⟩ (fun hHeld => ?_)
        clear hK K
        refine norm_ (a' := ?_) ?_ ?_
        rotate_left
        ·show Act.put _ (some 46) _ = _
         simp only [Act.put, zB, zC, zD, i64_w, i32_w]
         rfl
        refine one_ (i := 5) (N := some 44) #[true, true, true, true, true, true, true, true, false, false, false] rfl rfl (one_of HT_.out (by kernel_rfl)) (by decide) (fun K hK => ?_)
        refine Kd.R_append_rows_step (Kd.int .i64) (w0 := w) w.heap.size (by rfl) (.tmp 41) (.tmp 43) 22 3 (.int .i64 0) 8 rfl Try.underlying22 info3 rfl (by decide) (by omega) v187 y186 l0_2 _ _ _ (fun k_ => some k_ ≠ (v184 : Value).ownBlock) (fun _ => False) rfl rfl ?aO ?aR (fun _ _ h => h) (fun _ h => h.elim) ?aF ?aB ?aS ?aL ?_
        (case aR => repeat (first | exact (Kd.C_below HR0_2.out HB.out) | (with_reducible refine zI ?_ _) | (with_reducible refine zH ?_ _) | (with_reducible refine zJ ?_)))
        (case aB => exact (bB_ HB))
        (case aF => exact (fun k_ hk => Kd.fresh' (Kd.R_lt (bC_ HO185)) k_ hk))
        (case aO => exact (by (with_reducible repeat (first | apply zF | apply zE | apply zG)); exact Kd.R_mono HO188.out (fun _ hk => hk.2)))
        (case aS => exact (zT (bB_ HB)))
        (case aL => have := LMc27.out; omega)
        intro v190 w37 ho hb hg hat
        rw [← Ny189.out] at ho
        have n0_ := zA (blk_grown (g := gb177) (o := .cells #[.int .i64 a0_0, .int .i64 a0_1, .slice A0_2 l0_2.length c0_2] 26 (0, 0)) (bA_ BK177) hg (Kd.R_ne HO188.out BK177.out (by decide)))
        have n1_ := zA (blk_grown (g := gb178) (o := .cells #[.int .i64 a1_0, .int .i64 a1_1, .slice A1_2 l1_2.length c1_2] 26 (0, 0)) (bA_ BK178) hg (Kd.R_ne HO188.out BK178.out (by decide)))
        have n2_ := zA (Kd.R_after (ok := (fun _ => True)) (bC_ HO185) hg hat)
        have n3_ := zA (Kd.R_over' (bC_ HO194) (Kd.R_typed (bC_ HO188)) (by decide) hg)
        have n4_ := zA (hb)
        have n5_ := zA (ho)
        clear BK177
        clear BK178
        clear HO185
        clear HO194
        clear HB
        clear HO188
        have BK177 := n0_
        have BK178 := n1_
        have HO185 := n2_
        have HO194 := n3_
        have HB := n4_
        have HO191 := n5_
        clear n0_ n1_ n2_ n3_ n4_ n5_
        clear ho hb hg hat
        obtain ⟨Ao38, co38, eo38⟩ := Kd.R_slice HO194.out
        (first | subst eo38 | (injection eo38 with f1_ f2_ f3_; have f4_ := f1_.symm; have f5_ := f3_.symm; clear f1_ f2_ f3_; subst f4_; subst f5_))
        obtain ⟨Ao39, co39, eo39⟩ := Kd.R_slice HO191.out
        (first | subst eo39 | (injection eo39 with f1_ f2_ f3_; have f4_ := f1_.symm; have f5_ := f3_.symm; clear f1_ f2_ f3_; subst f4_; subst f5_))
        refine hK.out _ _ ⟨(blk_cell BK178.out 0).trans rfl, (blk_cell BK178.out 1).trans rfl, (blk_cell BK178.out 2).trans rfl, (blk_cell BK177.out 0).trans rfl, (blk_cell BK177.out 1).trans rfl, (blk_cell BK177.out 2).trans rfl⟩ (fun hHeld => ?_)
        clear hK K
        refine norm_ (a' := ?_) ?_ ?_
        rotate_left
        ·show Act.put _ (some 44) _ = _
         simp only [Act.put, zB, zC, zD, i64_w, i32_w]
         rfl
        exact norm_ (by simp only [putAll, Act.put, zB, zC, zD]) (hCont (v187, .slice Ao39 y189.length co39, .slice Ao38 y192.length co38) _ ⟨hHeld, (by (with_reducible repeat (first | apply zF | apply zE | apply zG)); exact Kd.R_mono HO185.out (fun _ hk => hk.2)), (bC_ HO191), (bC_ HO194), (bA_ BK177), (bA_ BK178), (bB_ HB)⟩)
      ·skip
       refine Kd.R_lit_step k61 _ 61 ?hg (N := 46) ?hd (xs := ([(⟨true, 0, 0, 24⟩ : S61)] : List (S61))) (inner := [.bool true, .int .i64 0, .int .i64 0, .int .i64 24]) (ok := fun _ => True) (okp := fun _ => True) ?hr ?hp (fun _ hk => hk) trivial (Below.refl _ _) (Nat.le_refl _) (by simp) ?_; (case hd => rfl); (case hg => rfl); (case hr => first | (go_simp; done) | (go_simp; rfl)); (case hp => exact (Reps.c4 (show Kd.M k61 _ _ _ (⟨true, 0, 0, 24⟩ : S61) [.bool true, .int .i64 0, .int .i64 0, .int .i64 24] from (k61_mkM _ _ _ (⟨true, 0, 0, 24⟩ : S61) )) (Reps.none _ _)))
       intro v193 w33 ho34 hb hg_ hnew_
       clear hg_ hnew_
       (first | rw [← Ny192.out] at ho34 | (simp only [Int.reduceToNat] at ho34; rw [← Ny192.out] at ho34))
       have n0_ := zA (zL (bC_ HO185) hb)
       have n1_ := zA (Kd.R_lower ho34 (zT (bB_ HB)))
       have n2_ := zA (zU (g := gb177) (o := .cells #[.int .i64 a0_0, .int .i64 a0_1, .slice A0_2 l0_2.length c0_2] 26 (0, 0)) (bA_ BK177) hb)
       have n3_ := zA (zU (g := gb178) (o := .cells #[.int .i64 a1_0, .int .i64 a1_1, .slice A1_2 l1_2.length c1_2] 26 (0, 0)) (bA_ BK178) hb)
       have n4_ := zA (below_step (bB_ HB) hb)
       clear HO185
       clear BK177
       clear BK178
       clear HB
       have HO185 := n0_
       have HO194 := n1_
       have BK177 := n2_
       have BK178 := n3_
       have HB := n4_
       clear n0_ n1_ n2_ n3_ n4_
       clear hb ho34
       refine hK.out _ _ ⟨(blk_cell BK178.out 0).trans rfl, (blk_cell BK178.out 1).trans rfl, (blk_cell BK178.out 2).trans rfl, (blk_cell BK177.out 0).trans rfl, (blk_cell BK177.out 1).trans rfl, (blk_cell BK177.out 2).trans rfl⟩ (fun hHeld => ?_)
       clear hK K
       refine norm_ (a' := ?_) ?_ ?_
       rotate_left
       ·show Act.put _ (some 46) _ = _
        simp only [Act.put, zB, zC, zD, i64_w, i32_w]
        rfl
       refine one_ (i := 2) (N := some 41) #[true, true, true, true, true, false, true, true, false, false, false] rfl rfl (one_of HT_.out (by kernel_rfl)) (by decide) (fun K hK => ?_)
       refine Kd.R_lit_step (Kd.int .i64) _ 3 ?hg (N := 41) ?hd (xs := ([] : List Int)) (inner := []) (ok := fun _ => True) (okp := fun _ => True) ?hr ?hp (fun _ hk => hk) trivial (Below.refl _ _) (Nat.le_refl _) (by simp) ?_; (case hd => rfl); (case hg => rfl); (case hr => first | (go_simp; done) | (go_simp; rfl)); (case hp => exact (Reps.none _ _))
       intro v187 w35 ho36 hb hg_ hnew_
       clear hg_ hnew_
       (first | rw [← Ny186.out] at ho36 | (simp only [Int.reduceToNat] at ho36; rw [← Ny186.out] at ho36))
       have n0_ := zA (Kd.R_elder' (bC_ HO185) (Kd.R_base ho36) hb)
       have n1_ := zA (zL (bC_ HO194) hb)
       have n2_ := zA (Kd.R_lower (Kd.R_new' ho36 (Kd.R_lt (bC_ HO185))) (zT (bB_ HB)))
       have n3_ := zA (zU (g := gb177) (o := .cells #[.int .i64 a0_0, .int .i64 a0_1, .slice A0_2 l0_2.length c0_2] 26 (0, 0)) (bA_ BK177) hb)
       have n4_ := zA (zU (g := gb178) (o := .cells #[.int .i64 a1_0, .int .i64 a1_1, .slice A1_2 l1_2.length c1_2] 26 (0, 0)) (bA_ BK178) hb)
       have n5_ := zA (below_step (bB_ HB) hb)
       clear HO185
       clear HO194
       clear BK177
       clear BK178
       clear HB
       have HO185 := n0_
       have HO194 := n1_
       have HO188 := n2_
       have BK177 := n3_
       have BK178 := n4_
       have HB := n5_
       clear n0_ n1_ n2_ n3_ n4_ n5_
       clear hb ho36
       refine hK.out _ _ ⟨(blk_cell BK178.out 0).trans rfl, (blk_cell BK178.out 1).trans rfl, (blk_cell BK178.out 2).trans rfl, (blk_cell BK177.out 0).trans rfl, (blk_cell BK177.out 1).trans rfl, (blk_cell BK177.out 2).trans rfl⟩ (fun hHeld => ?_)
       clear hK K
       refine norm_ (a' := ?_) ?_ ?_
       rotate_left
       ·show Act.put _ (some 41) _ = _
        simp only [Act.put, zB, zC, zD, i64_w, i32_w]
        rfl
       refine one_ (i := 5) (N := some 44) #[true, true, true, true, true, true, true, true, false, false, false] rfl rfl (one_of HT_.out (by kernel_rfl)) (by decide) (fun K hK => ?_)
       refine Kd.R_append_rows_step (Kd.int .i64) (w0 := w) w.heap.size (by rfl) (.tmp 41) (.tmp 43) 22 3 (.int .i64 0) 8 rfl Try.underlying22 info3 rfl (by decide) (by omega) v187 y186 l0_2 _ _ _ (fun k_ => some k_ ≠ (v184 : Value).ownBlock) (fun _ => False) rfl rfl ?aO ?aR (fun _ _ h => h) (fun _ h => h.elim) ?aF ?aB ?aS ?aL ?_
       (case aR => repeat (first | exact (Kd.C_below HR0_2.out HB.out) | (with_reducible refine zI ?_ _) | (with_reducible refine zH ?_ _) | (with_reducible refine zJ ?_)))
       (case aB => exact (bB_ HB))
       (case aF => exact (fun k_ hk => Kd.fresh' (Kd.R_lt (bC_ HO185)) k_ hk))
       (case aO => exact (by (with_reducible repeat (first | apply zF | apply zE | apply zG)); exact Kd.R_mono HO188.out (fun _ hk => hk.2)))
       (case aS => exact (zT (bB_ HB)))
       (case aL => have := LMc27.out; omega)
       intro v190 w37 ho hb hg hat
       rw [← Ny189.out] at ho
       have n0_ := zA (blk_grown (g := gb177) (o := .cells #[.int .i64 a0_0, .int .i64 a0_1, .slice A0_2 l0_2.length c0_2] 26 (0, 0)) (bA_ BK177) hg (Kd.R_ne HO188.out BK177.out (by decide)))
       have n1_ := zA (blk_grown (g := gb178) (o := .cells #[.int .i64 a1_0, .int .i64 a1_1, .slice A1_2 l1_2.length c1_2] 26 (0, 0)) (bA_ BK178) hg (Kd.R_ne HO188.out BK178.out (by decide)))
       have n2_ := zA (Kd.R_after (ok := (fun _ => True)) (bC_ HO185) hg hat)
       have n3_ := zA (Kd.R_over' (bC_ HO194) (Kd.R_typed (bC_ HO188)) (by decide) hg)
       have n4_ := zA (hb)
       have n5_ := zA (ho)
       clear BK177
       clear BK178
       clear HO185
       clear HO194
       clear HB
       clear HO188
       have BK177 := n0_
       have BK178 := n1_
       have HO185 := n2_
       have HO194 := n3_
       have HB := n4_
       have HO191 := n5_
       clear n0_ n1_ n2_ n3_ n4_ n5_
       clear ho hb hg hat
       obtain ⟨Ao38, co38, eo38⟩ := Kd.R_slice HO194.out
       (first | subst eo38 | (injection eo38 with f1_ f2_ f3_; have f4_ := f1_.symm; have f5_ := f3_.symm; clear f1_ f2_ f3_; subst f4_; subst f5_))
       obtain ⟨Ao39, co39, eo39⟩ := Kd.R_slice HO191.out
       (first | subst eo39 | (injection eo39 with f1_ f2_ f3_; have f4_ := f1_.symm; have f5_ := f3_.symm; clear f1_ f2_ f3_; subst f4_; subst f5_))
       refine hK.out _ _ ⟨(blk_cell BK178.out 0).trans rfl, (blk_cell BK178.out 1).trans rfl, (blk_cell BK178.out 2).trans rfl, (blk_cell BK177.out 0).trans rfl, (blk_cell BK177.out 1).trans rfl, (blk_cell BK177.out 2).trans rfl⟩ (fun hHeld => ?_)
       clear hK K
       refine norm_ (a' := ?_) ?_ ?_
       rotate_left
       ·show Act.put _ (some 44) _ = _
        simp only [Act.put, zB, zC, zD, i64_w, i32_w]
        rfl
       exact norm_ (by simp only [putAll, Act.put, zB, zC, zD]) (hCont (v187, .slice Ao39 y189.length co39, .slice Ao38 y192.length co38) _ ⟨hHeld, (by (with_reducible repeat (first | apply zF | apply zE | apply zG)); exact Kd.R_mono HO185.out (fun _ hk => hk.2)), (bC_ HO191), (bC_ HO194), (bA_ BK177), (bA_ BK178), (bB_ HB)⟩)
     rintro ⟨v187, v190, v193⟩ w40 ⟨hS_, h0_, h1_, h2_, h3_, h4_, h5_⟩
     have n0_ : Aside0 (Kd.R (Kd.int .i64) 3 w40 w.heap.size (fun k_ => some k_ ≠ (v190 : Value).ownBlock) v184 t183) := ⟨h0_⟩
     have n1_ : Aside0 (Kd.R (Kd.int .i64) 3 w40 w.heap.size (fun k_ => some k_ ≠ (v184 : Value).ownBlock) v190 y189) := ⟨h1_⟩
     have n2_ : Aside0 (Kd.R k61 61 w40 w.heap.size (fun _ => True) v193 y192) := ⟨h2_⟩
     have n3_ : Aside0 (w40.heap[gb177]? = some (.cells #[.int .i64 a0_0, .int .i64 a0_1, .slice A0_2 l0_2.length c0_2] 26 (0, 0))) := ⟨h3_⟩
     have n4_ : Aside0 (w40.heap[gb178]? = some (.cells #[.int .i64 a1_0, .int .i64 a1_1, .slice A1_2 l1_2.length c1_2] 26 (0, 0))) := ⟨h4_⟩
     have n5_ : Aside0 (Below w.heap.size w w40) := ⟨h5_⟩
     clear HO185
     clear BK177
     clear BK178
     clear HB
     clear h0_ h1_ h2_ h3_ h4_ h5_
     have HO185 := n0_
     have HO191 := n1_
     have HO194 := n2_
     have BK177 := n3_
     have BK178 := n4_
     have HB := n5_
     clear n0_ n1_ n2_ n3_ n4_ n5_
     have hHeld : w40.cell? ⟨gb178, 0, none⟩ = some (.int .i64 a1_0) ∧ w40.cell? ⟨gb178, 1, none⟩ = some (.int .i64 a1_1) ∧ w40.cell? ⟨gb178, 2, none⟩ = some (.slice A1_2 l1_2.length c1_2) ∧ w40.cell? ⟨gb177, 0, none⟩ = some (.int .i64 a0_0) ∧ w40.cell? ⟨gb177, 1, none⟩ = some (.int .i64 a0_1) ∧ w40.cell? ⟨gb177, 2, none⟩ = some (.slice A0_2 l0_2.length c0_2) := hS_
     obtain ⟨Ao41, co41, eo41⟩ := Kd.R_slice HO194.out
     (first | subst eo41 | (injection eo41 with f1_ f2_ f3_; have f4_ := f1_.symm; have f5_ := f3_.symm; clear f1_ f2_ f3_; subst f4_; subst f5_))
     obtain ⟨Ao42, co42, eo42⟩ := Kd.R_slice HO191.out
     (first | subst eo42 | (injection eo42 with f1_ f2_ f3_; have f4_ := f1_.symm; have f5_ := f3_.symm; clear f1_ f2_ f3_; subst f4_; subst f5_))
     refine norm_ (a' := ?_) ?_ ?_
     rotate_left
     ·simp only [putAll, Act.put, zB, zC, zD]
      rfl
     refine pure_ (i := 8) (N := some 47) (v := ?_) (a' := ?_) #[true, true, true, true, true, true, true, true, true, false, false] rfl rfl (any_of HT_.out (by kernel_rfl)) (fun _ _ _ h => h) (Or.inl ⟨by rfl, ?_⟩) ?_ ?_
     rotate_left
     ·intro w'
      go_simp
      with_reducible rfl
     rotate_left
     ·simp only [Act.put, zB, zC, zD, i64_w, i32_w]
      rfl
     refine one_ (i := 9) (N := some 48) #[true, true, true, true, true, true, true, true, true, true, false] rfl rfl (one_of HT_.out (by kernel_rfl)) (by decide) (fun K hK => ?_)
     refine box_step ?hg (N := 48) ?hd (cs := #[.int .i64 a1_0, .int .i64 a1_1, .slice A1_2 l1_2.length c1_2, .int .i64 a2, .slice Ao42 y189.length co42, .int .i64 0, .slice Ao41 y192.length co41]) (t := 78) ?hr ?_; (case hd => rfl); (case hg => rfl); (case hr => first | (go_simp; done) | (go_simp; rfl))
     intro gb195 hg w43 hbox hb
     have n0_ := zA (zL (bC_ HO185) hb)
     have n1_ := zA (zL (bC_ HO191) hb)
     have n2_ := zA (zL (bC_ HO194) hb)
     have n3_ := zA (zU (g := gb177) (o := .cells #[.int .i64 a0_0, .int .i64 a0_1, .slice A0_2 l0_2.length c0_2] 26 (0, 0)) (bA_ BK177) hb)
     have n4_ := zA (zU (g := gb178) (o := .cells #[.int .i64 a1_0, .int .i64 a1_1, .slice A1_2 l1_2.length c1_2] 26 (0, 0)) (bA_ BK178) hb)
     have n5_ := zA (below_step (bB_ HB) hb)
     have n6_ := zA (hbox)
     have n7_ := zA ((by rw [hg]; exact (zT (bB_ HB)) : w.heap.size ≤ gb195))
     have n8_ := zA ((by rw [hg]; exact (zT (bB_ HB)) : w.heap.size ≤ gb195))
     have n9_ := zA ((by rw [hg]; exact Nat.ne_of_lt (blk_lt (g := gb177) (o := .cells #[.int .i64 a0_0, .int .i64 a0_1, .slice A0_2 l0_2.length c0_2] 26 (0, 0)) (bA_ BK177)) : gb177 ≠ gb195))
     have n10_ := zA ((by rw [hg]; exact Nat.ne_of_gt (blk_lt (g := gb177) (o := .cells #[.int .i64 a0_0, .int .i64 a0_1, .slice A0_2 l0_2.length c0_2] 26 (0, 0)) (bA_ BK177)) : gb195 ≠ gb177))
     have n11_ := zA ((by rw [hg]; exact Nat.ne_of_lt (blk_lt (g := gb178) (o := .cells #[.int .i64 a1_0, .int .i64 a1_1, .slice A1_2 l1_2.length c1_2] 26 (0, 0)) (bA_ BK178)) : gb178 ≠ gb195))
     have n12_ := zA ((by rw [hg]; exact Nat.ne_of_gt (blk_lt (g := gb178) (o := .cells #[.int .i64 a1_0, .int .i64 a1_1, .slice A1_2 l1_2.length c1_2] 26 (0, 0)) (bA_ BK178)) : gb195 ≠ gb178))
     clear HO185
     clear HO191
     clear HO194
     clear BK177
     clear BK178
     clear HB
     have HO185 := n0_
     have HO191 := n1_
     have HO194 := n2_
     have BK177 := n3_
     have BK178 := n4_
     have HB := n5_
     have BK195 := n6_
     have GW195 := n7_
     have GE195 := n8_
     have NB177_195 := n9_
     have NB195_177 := n10_
     have NB178_195 := n11_
     have NB195_178 := n12_
     clear n0_ n1_ n2_ n3_ n4_ n5_ n6_ n7_ n8_ n9_ n10_ n11_ n12_
     clear hb hbox hg
     refine hK.out _ _ ⟨(blk_cell BK178.out 0).trans rfl, (blk_cell BK178.out 1).trans rfl, (blk_cell BK178.out 2).trans rfl, (blk_cell BK177.out 0).trans rfl, (blk_cell BK177.out 1).trans rfl, (blk_cell BK177.out 2).trans rfl⟩ (fun hHeld => ?_)
     clear hK K
     refine norm_ (a' := ?_) ?_ ?_
     rotate_left
     ·show Act.put _ (some 48) _ = _
      simp only [Act.put, zB, zC, zD, i64_w, i32_w]
      rfl
     refine pure_ (i := 10) (N := some 11) (v := ?_) (a' := ?_) #[true, true, true, true, true, true, true, true, true, true, true] rfl rfl (any_of HT_.out (by kernel_rfl)) (fun _ _ _ h => h) (Or.inl ⟨by rfl, ?_⟩) ?_ ?_
     rotate_left
     ·intro w'
      go_simp
      with_reducible rfl
     rotate_left
     ·simp only [Act.put, zB, zC, zD, i64_w, i32_w]
      rfl
     refine done_ (done_of HT_.out (by kernel_rfl)) ?_
     try go_wp2_with (first | ((with_reducible refine gate_callee (f := 58) rfl ?_); refine goesL_ (some 50) rfl rfl Try.func58 (by kernel_rfl) rfl #[.int .i64 a3] rfl (by (try simp only [List.map_toArray, List.map_cons, List.map_nil]); first | done | rfl | (simp only [List.length_drop, List.length_take]; rfl)) ?_; (with_reducible refine (spec_l11Levels.calls kj4 a3 t196 _ A28.out).mono ?_); rintro e w44 ⟨v197, rfl, ho0, hb⟩; refine ⟨_, rfl, ?_⟩; have n0_ := zA (Kd.R_elder' (bC_ HO185) (Kd.R_base ho0) hb); have n1_ := zA (Kd.R_elder' (bC_ HO191) (Kd.R_base ho0) hb); have n2_ := zA (zL (bC_ HO194) hb); have n3_ := zA (Kd.R_lower (Kd.R_new' (Kd.R_new' ho0 (Kd.R_lt (bC_ HO185))) (Kd.R_lt (bC_ HO191))) (zT (bB_ HB))); have n4_ := zA (zU (g := gb177) (o := .cells #[.int .i64 a0_0, .int .i64 a0_1, .slice A0_2 l0_2.length c0_2] 26 (0, 0)) (bA_ BK177) hb); have n5_ := zA (zU (g := gb178) (o := .cells #[.int .i64 a1_0, .int .i64 a1_1, .slice A1_2 l1_2.length c1_2] 26 (0, 0)) (bA_ BK178) hb); have n6_ := zA (zU (g := gb195) (o := .cells #[.int .i64 a1_0, .int .i64 a1_1, .slice A1_2 l1_2.length c1_2, .int .i64 a2, .slice Ao42 y189.length co42, .int .i64 0, .slice Ao41 y192.length co41] 78 (0, 0)) (bA_ BK195) hb); have n7_ := zA (below_step (bB_ HB) hb); clear HO185; clear HO191; clear HO194; clear BK177; clear BK178; clear BK195; clear HB; have HO185 := n0_; have HO191 := n1_; have HO194 := n2_; have HO198 := n3_; have BK177 := n4_; have BK178 := n5_; have BK195 := n6_; have HB := n7_; clear n0_ n1_ n2_ n3_ n4_ n5_ n6_ n7_; (try clear hb); (try clear hb2); (try clear hk); (try clear hi); (try clear ho0)))
     go_loopg [13] kj4 (fun kq v13 w' => ∃ (x10_2 : List Int) (x12_2 : List Int) (x13_2 : Int) (x196004_2 : List Int) (x196005_2 : Int) (x196006_2 : List (S61)) (u196004 : Value) (u196006 : Value), v13 = .int .i64 x13_2 ∧ Aside0 (spec_Zigzag.l0 kq x10_2 x12_2 x13_2 a1_0 a1_1 l1_2 a1_0 a1_1 l1_2 a2 x196004_2 x196005_2 x196006_2 = some (r1, r2)) ∧ Aside0 (kq ≤ kj4) ∧ Aside0 (Kd.R (Kd.int .i64) 3 w' w.heap.size (fun k_ => some k_ ≠ (v197 : Value).ownBlock ∧ some k_ ≠ (u196004 : Value).ownBlock) v184 x10_2) ∧ Aside0 (Kd.R (Kd.int .i64) 3 w' w.heap.size (fun k_ => some k_ ≠ (v184 : Value).ownBlock ∧ some k_ ≠ (u196004 : Value).ownBlock) v197 x12_2) ∧ Aside0 (Kd.R (Kd.int .i64) 3 w' w.heap.size (fun k_ => some k_ ≠ (v184 : Value).ownBlock ∧ some k_ ≠ (v197 : Value).ownBlock) u196004 x196004_2) ∧ Aside0 (Kd.R k61 61 w' w.heap.size (fun _ => True) u196006 x196006_2) ∧ Aside0 (w'.heap[gb177]? = some (.cells #[.int .i64 a0_0, .int .i64 a0_1, (.slice A0_2 l0_2.length c0_2)] 26 (0, 0))) ∧ Aside0 (w'.heap[gb178]? = some (.cells #[.int .i64 a1_0, .int .i64 a1_1, (.slice A1_2 l1_2.length c1_2)] 26 (0, 0))) ∧ Aside0 (w'.heap[gb195]? = some (.cells #[.int .i64 a1_0, .int .i64 a1_1, (.slice A1_2 l1_2.length c1_2), .int .i64 a2, u196004, .int .i64 x196005_2, u196006] 78 (0, 0))) ∧ Aside0 (Below w.heap.size w w'))
     case atStart => exact ⟨(t183), (t196), (0), (y189), (0), (y192), (.slice Ao42 y189.length co42), (.slice Ao41 y192.length co41), (by first | rfl | (simp; done) | (simp [*]; done)), H', ⟨Nat.le_refl _⟩, ⟨by (with_reducible repeat (first | apply zF | apply zE | apply zG)); exact Kd.R_mono HO185.out (fun _ hk => ⟨hk.2, hk.1⟩)⟩, ⟨by (with_reducible repeat (first | apply zF | apply zE | apply zG)); exact Kd.R_mono HO198.out (fun _ hk => ⟨hk.1.2, hk.2⟩)⟩, ⟨bC_ HO191⟩, ⟨bC_ HO194⟩, ⟨bA_ BK177⟩, ⟨bA_ BK178⟩, ⟨bA_ BK195⟩, ⟨bB_ HB⟩⟩
     case round =>
      clear H'
      try clear c1
      try clear c2
      try clear p2
      try clear c4
      try clear c5
      try clear c9
      try clear c10
      try clear c10b0
      try clear c11
      try clear c15
      try clear c19
      try clear c23
      try clear c27
      try clear c29
      try clear c41
      try clear hcz12_0
      try clear hcz12_1
      try clear hcz12_2
      try clear hcz13_0
      try clear hcz13_1
      try clear hcz13_2
      try clear hcz16_0
      try clear hcz16_1
      try clear hcz16_2
      try clear hcz17_0
      try clear hcz17_1
      try clear hcz17_2
      try clear hcz20_0
      try clear hcz20_1
      try clear hcz20_2
      try clear hcz21_0
      try clear hcz21_1
      try clear hcz21_2
      try clear hcz30_0
      try clear hcz30_1
      try clear hcz30_2
      try clear hfz12_0
      try clear hfz12_1
      try clear hfz12_2
      try clear hfz13_0
      try clear hfz13_1
      try clear hfz13_2
      try clear hfz16_0
      try clear hfz16_1
      try clear hfz16_2
      try clear hfz17_0
      try clear hfz17_1
      try clear hfz17_2
      try clear hfz20_0
      try clear hfz20_1
      try clear hfz20_2
      try clear hfz21_0
      try clear hfz21_1
      try clear hfz21_2
      try clear hfz30_0
      try clear hfz30_1
      try clear hfz30_2
      try clear p2
      obtain ⟨x10_2, x12_2, x13_2, x196004_2, x196005_2, x196006_2, u196004, u196006, rfl, HA, HK2, HO_10, HO_12, HO_196004, HO_196006, BK177, BK178, BK195, HB⟩ := hrel
      cases gk with
      | zero => exact absurd HA.out (by simp [spec_Zigzag.l0])
      | succ k2 =>
       have H := HA.out
       clear HA
       simp only [spec_Zigzag.l0] at H
       by_cases c45 : x13_2 < (x12_2.length : Int)
       ·rw [if_pos c45] at H
        have c45b0 : decide (x13_2 < (x12_2.length : Int)) = true := decide_eq_true c45
        clear c45
        have H' := zA H
        clear H
        obtain ⟨Ao46, co46, eo46⟩ := Kd.R_slice HO_12.out
        subst eo46
        go_wp2
        go_loopg [14] k2 (fun kq v14 w' => ∃ (x10_3 : List Int) (x12_3 : List Int) (x14_3 : Int) (x196004_3 : List Int) (x196005_3 : Int) (x196006_3 : List (S61)) (u196004 : Value) (u196006 : Value), v14 = .int .i64 x14_3 ∧ Aside0 (spec_Zigzag.l1 kq x10_3 x12_3 x13_2 x14_3 a1_0 a1_1 l1_2 a1_0 a1_1 l1_2 a2 x196004_3 x196005_3 x196006_3 = some (r1, r2)) ∧ Aside0 (kq ≤ k2) ∧ Aside0 (Kd.R (Kd.int .i64) 3 w' w.heap.size (fun k_ => some k_ ≠ ((.slice Ao46 x12_2.length co46) : Value).ownBlock ∧ some k_ ≠ (u196004 : Value).ownBlock) v184 x10_3) ∧ Aside0 (Kd.R (Kd.int .i64) 3 w' w.heap.size (fun k_ => some k_ ≠ (v184 : Value).ownBlock ∧ some k_ ≠ (u196004 : Value).ownBlock) (.slice Ao46 x12_2.length co46) x12_3) ∧ Aside0 (Kd.R (Kd.int .i64) 3 w' w.heap.size (fun k_ => some k_ ≠ (v184 : Value).ownBlock ∧ some k_ ≠ ((.slice Ao46 x12_2.length co46) : Value).ownBlock) u196004 x196004_3) ∧ Aside0 (Kd.R k61 61 w' w.heap.size (fun _ => True) u196006 x196006_3) ∧ Aside0 (w'.heap[gb177]? = some (.cells #[.int .i64 a0_0, .int .i64 a0_1, (.slice A0_2 l0_2.length c0_2)] 26 (0, 0))) ∧ Aside0 (w'.heap[gb178]? = some (.cells #[.int .i64 a1_0, .int .i64 a1_1, (.slice A1_2 l1_2.length c1_2)] 26 (0, 0))) ∧ Aside0 (w'.heap[gb195]? = some (.cells #[.int .i64 a1_0, .int .i64 a1_1, (.slice A1_2 l1_2.length c1_2), .int .i64 a2, u196004, .int .i64 x196005_3, u196006] 78 (0, 0))) ∧ Aside0 (Below w.heap.size w w'))
        case atStart => exact ⟨(x10_2), (x12_2), (0), (x196004_2), (x196005_2), (x196006_2), (u196004), (u196006), (by first | rfl | (simp; done) | (simp [*]; done)), H', ⟨Nat.le_refl _⟩, ⟨bC_ HO_10⟩, ⟨bC_ HO_12⟩, ⟨bC_ HO_196004⟩, ⟨bC_ HO_196006⟩, ⟨bA_ BK177⟩, ⟨bA_ BK178⟩, ⟨bA_ BK195⟩, ⟨bB_ HB⟩⟩
        case round =>
         clear H'
         try clear c1
         try clear c2
         try clear p2
         try clear c4
         try clear c5
         try clear c9
         try clear c10
         try clear c10b0
         try clear c11
         try clear c15
         try clear c19
         try clear c23
         try clear c27
         try clear c29
         try clear c41
         try clear c45
         try clear c45b0
         try clear hcz12_0
         try clear hcz12_1
         try clear hcz12_2
         try clear hcz13_0
         try clear hcz13_1
         try clear hcz13_2
         try clear hcz16_0
         try clear hcz16_1
         try clear hcz16_2
         try clear hcz17_0
         try clear hcz17_1
         try clear hcz17_2
         try clear hcz20_0
         try clear hcz20_1
         try clear hcz20_2
         try clear hcz21_0
         try clear hcz21_1
         try clear hcz21_2
         try clear hcz30_0
         try clear hcz30_1
         try clear hcz30_2
         try clear hfz12_0
         try clear hfz12_1
         try clear hfz12_2
         try clear hfz13_0
         try clear hfz13_1
         try clear hfz13_2
         try clear hfz16_0
         try clear hfz16_1
         try clear hfz16_2
         try clear hfz17_0
         try clear hfz17_1
         try clear hfz17_2
         try clear hfz20_0
         try clear hfz20_1
         try clear hfz20_2
         try clear hfz21_0
         try clear hfz21_1
         try clear hfz21_2
         try clear hfz30_0
         try clear hfz30_1
         try clear hfz30_2
         try clear p2
         obtain ⟨x10_3, x12_3, x14_3, x196004_3, x196005_3, x196006_3, u196004, u196006, rfl, HA, HK3, HO_10, HO_12, HO_196004, HO_196006, BK177, BK178, BK195, HB⟩ := hrel
         have hl12_3 := (zK HO_12.out).1
         rw [hl12_3] at HO_12
         (try simp only [hl12_3])
         (try simp only [hl12_3] at BK177)
         (try simp only [hl12_3] at BK178)
         (try simp only [hl12_3] at BK195)
         (try simp only [hl12_3] at HO_10)
         (try simp only [hl12_3] at HO_196004)
         (try simp only [hl12_3] at HO_196006)
         cases gk with
         | zero => exact absurd HA.out (by simp [spec_Zigzag.l1])
         | succ k3 =>
          have H := HA.out
          clear HA
          simp only [spec_Zigzag.l1] at H
          by_cases c47 : x14_3 < a1_1
          ·rw [if_pos c47] at H
           have c47b0 : decide (x14_3 < a1_1) = true := decide_eq_true c47
           clear c47
           have H' := zA H
           clear H
           have hnb48 := NB178_177.out
           have hnc48 := NB177_178.out
           have hnb49 := NB178_195.out
           have hnc49 := NB195_178.out
           have hcz50_0 : wr.cell? ⟨gb178, 0, none⟩ = some (.int .i64 a1_0) := (blk_cell BK178.out 0).trans rfl
           have hcz50_1 : wr.cell? ⟨gb178, 1, none⟩ = some (.int .i64 a1_1) := (blk_cell BK178.out 1).trans rfl
           have hcz50_2 : wr.cell? ⟨gb178, 2, none⟩ = some (.slice A1_2 l1_2.length c1_2) := (blk_cell BK178.out 2).trans rfl
           have hfz50_0 := blk_frozen BK178.out 0
           have hfz50_1 := blk_frozen BK178.out 1
           have hfz50_2 := blk_frozen BK178.out 2
           go_wp2
           go_loopg [15] k3 (fun kq v15 w' => ∃ (x10_4 : List Int) (x12_4 : List Int) (x15_4 : Int) (x196004_4 : List Int) (x196005_4 : Int) (x196006_4 : List (S61)) (u196004 : Value) (u196006 : Value), v15 = .int .i64 x15_4 ∧ Aside0 (spec_Zigzag.l2 kq x10_4 x12_4 x13_2 x14_3 x15_4 a1_0 a1_1 l1_2 a1_0 a1_1 l1_2 a2 x196004_4 x196005_4 x196006_4 = some (r1, r2)) ∧ Aside0 (kq ≤ k3) ∧ Aside0 (Kd.R (Kd.int .i64) 3 w' w.heap.size (fun k_ => some k_ ≠ ((.slice Ao46 x12_3.length co46) : Value).ownBlock ∧ some k_ ≠ (u196004 : Value).ownBlock) v184 x10_4) ∧ Aside0 (Kd.R (Kd.int .i64) 3 w' w.heap.size (fun k_ => some k_ ≠ (v184 : Value).ownBlock ∧ some k_ ≠ (u196004 : Value).ownBlock) (.slice Ao46 x12_3.length co46) x12_4) ∧ Aside0 (Kd.R (Kd.int .i64) 3 w' w.heap.size (fun k_ => some k_ ≠ (v184 : Value).ownBlock ∧ some k_ ≠ ((.slice Ao46 x12_3.length co46) : Value).ownBlock) u196004 x196004_4) ∧ Aside0 (Kd.R k61 61 w' w.heap.size (fun _ => True) u196006 x196006_4) ∧ Aside0 (w'.heap[gb177]? = some (.cells #[.int .i64 a0_0, .int .i64 a0_1, (.slice A0_2 l0_2.length c0_2)] 26 (0, 0))) ∧ Aside0 (w'.heap[gb178]? = some (.cells #[.int .i64 a1_0, .int .i64 a1_1, (.slice A1_2 l1_2.length c1_2)] 26 (0, 0))) ∧ Aside0 (w'.heap[gb195]? = some (.cells #[.int .i64 a1_0, .int .i64 a1_1, (.slice A1_2 l1_2.length c1_2), .int .i64 a2, u196004, .int .i64 x196005_4, u196006] 78 (0, 0))) ∧ Aside0 (Below w.heap.size w w'))
           case atStart => exact ⟨(x10_3), (x12_3), (0), (x196004_3), (x196005_3), (x196006_3), (u196004), (u196006), (by first | rfl | (simp; done) | (simp [*]; done)), H', ⟨Nat.le_refl _⟩, ⟨by (try simp only [hl12_3]); (with_reducible repeat (first | apply zF | apply zE | apply zG)); exact HO_10.out⟩, ⟨by (try simp only [hl12_3]); (with_reducible repeat (first | apply zF | apply zE | apply zG)); exact HO_12.out⟩, ⟨by (try simp only [hl12_3]); (with_reducible repeat (first | apply zF | apply zE | apply zG)); exact HO_196004.out⟩, ⟨by (try simp only [hl12_3]); (with_reducible repeat (first | apply zF | apply zE | apply zG)); exact HO_196006.out⟩, ⟨by (try simp only [hl12_3]); (with_reducible repeat (first | refine zM ?_ _ | refine zN ?_ | refine zO ?_ _)); exact BK177.out⟩, ⟨by (try simp only [hl12_3]); (with_reducible repeat (first | refine zM ?_ _ | refine zN ?_ | refine zO ?_ _)); exact BK178.out⟩, ⟨by (try simp only [hl12_3]); (with_reducible repeat (first | refine zM ?_ _ | refine zN ?_ | refine zO ?_ _)); exact BK195.out⟩, ⟨bB_ HB⟩⟩
           case round =>
            clear H'
            try clear c1
            try clear c2
            try clear p2
            try clear c4
            try clear c5
            try clear c9
            try clear c10
            try clear c10b0
            try clear c11
            try clear c15
            try clear c19
            try clear c23
            try clear c27
            try clear c29
            try clear c41
            try clear c45
            try clear c45b0
            try clear c47
            try clear c47b0
            try clear c48
            try clear c49
            try clear hcz12_0
            try clear hcz12_1
            try clear hcz12_2
            try clear hcz13_0
            try clear hcz13_1
            try clear hcz13_2
            try clear hcz16_0
            try clear hcz16_1
            try clear hcz16_2
            try clear hcz17_0
            try clear hcz17_1
            try clear hcz17_2
            try clear hcz20_0
            try clear hcz20_1
            try clear hcz20_2
            try clear hcz21_0
            try clear hcz21_1
            try clear hcz21_2
            try clear hcz30_0
            try clear hcz30_1
            try clear hcz30_2
            try clear hcz50_0
            try clear hcz50_1
            try clear hcz50_2
            try clear hfz12_0
            try clear hfz12_1
            try clear hfz12_2
            try clear hfz13_0
            try clear hfz13_1
            try clear hfz13_2
            try clear hfz16_0
            try clear hfz16_1
            try clear hfz16_2
            try clear hfz17_0
            try clear hfz17_1
            try clear hfz17_2
            try clear hfz20_0
            try clear hfz20_1
            try clear hfz20_2
            try clear hfz21_0
            try clear hfz21_1
            try clear hfz21_2
            try clear hfz30_0
            try clear hfz30_1
            try clear hfz30_2
            try clear hfz50_0
            try clear hfz50_1
            try clear hfz50_2
            try clear p2
            obtain ⟨x10_4, x12_4, x15_4, x196004_4, x196005_4, x196006_4, u196004, u196006, rfl, HA, HK4, HO_10, HO_12, HO_196004, HO_196006, BK177, BK178, BK195, HB⟩ := hrel
            have hl12_4 := (zK HO_12.out).1
            rw [hl12_4] at HO_12
            (try simp only [hl12_4])
            (try simp only [hl12_4] at BK177)
            (try simp only [hl12_4] at BK178)
            (try simp only [hl12_4] at BK195)
            (try simp only [hl12_4] at HO_10)
            (try simp only [hl12_4] at HO_196004)
            (try simp only [hl12_4] at HO_196006)
            cases gk with
            | zero => exact absurd HA.out (by simp [spec_Zigzag.l2])
            | succ k4 =>
             have H := HA.out
             clear HA
             simp only [spec_Zigzag.l2] at H
             by_cases c51 : x15_4 < a1_0
             ·rw [if_pos c51] at H
              have c51b0 : decide (x15_4 < a1_0) = true := decide_eq_true c51
              clear c51
              by_cases c52 : (Int.tmod x14_3 2) = 1
              ·rw [if_pos c52] at H
               have c52b0 : ((Int.tmod x14_3 2) == 1) = true := beq_iff_eq.mpr c52
               have c52b1 : ((Int.tmod x14_3 2) != 1) = false := bne_eq_false_iff_eq.mpr c52
               clear c52
               obtain ⟨ji53, hji53⟩ : ∃ j_ : Int, (wrap64 ((wrap64 (x14_3 * a1_0)) + (wrap64 ((wrap64 (a1_0 - 1)) - x15_4)))) = j_ := ⟨_, rfl⟩
               replace H : (if 0 ≤ (ji53) then (if (ji53) < (x10_4.length : Int) then (if 0 ≤ x13_2 then (if x13_2 < (x12_4.length : Int) then (if (rd x10_4 (ji53)) ≤ (rd x12_4 x13_2) then ((spec_l11Run_stand.f k4 0 (wrap64 ((wrap64 (a1_0 - 1)) - x15_4)) x14_3 (rd x12_4 x13_2) a1_0 a1_1 l1_2 a2 x196004_4 x196005_4 x196006_4).bind fun bt202 => (spec_Zigzag.l2 k4 x10_4 x12_4 x13_2 x14_3 (wrap64 (x15_4 + 1)) a1_0 a1_1 l1_2 a1_0 a1_1 l1_2 a2 bt202.2.2 bt202.1 bt202.2.1)) else (spec_Zigzag.l2 k4 x10_4 x12_4 x13_2 x14_3 (wrap64 (x15_4 + 1)) a1_0 a1_1 l1_2 a1_0 a1_1 l1_2 a2 x196004_4 x196005_4 x196006_4)) else (none)) else (none)) else (none)) else (none)) = some (r1, r2) := by first | (rw [hji53] at H; exact H) | (simp only [hji53] at H ⊢; exact H)
               have hji53w : (IntKind.i64.wrap ((wrap64 (x14_3 * a1_0)) + (wrap64 ((wrap64 (a1_0 - 1)) - x15_4)))) = ji53 := (i64_w _).trans hji53
               by_cases c54 : 0 ≤ (ji53)
               ·rw [if_pos c54] at H
                have c54b0 : decide (0 ≤ (ji53)) = true := decide_eq_true c54
                clear c54
                by_cases c55 : (ji53) < (x10_4.length : Int)
                ·rw [if_pos c55] at H
                 have c55b0 : decide ((ji53) < (x10_4.length : Int)) = true := decide_eq_true c55
                 (try (have c55b0l := c55b0; rw [hl12_3] at c55b0l))
                 (try (have c55b0l := c55b0; rw [hl12_4] at c55b0l))
                 clear c55
                 by_cases c56 : 0 ≤ x13_2
                 ·rw [if_pos c56] at H
                  have c56b0 : decide (0 ≤ x13_2) = true := decide_eq_true c56
                  clear c56
                  by_cases c57 : x13_2 < (x12_4.length : Int)
                  ·rw [if_pos c57] at H
                   have c57b0 : decide (x13_2 < (x12_4.length : Int)) = true := decide_eq_true c57
                   (try (have c57b0l := c57b0; rw [hl12_3] at c57b0l))
                   (try (have c57b0l := c57b0; rw [hl12_4] at c57b0l))
                   clear c57
                   by_cases c58 : (rd x10_4 (ji53)) ≤ (rd x12_4 x13_2)
                   ·rw [if_pos c58] at H
                    have c58b0 : decide ((rd x10_4 (ji53)) ≤ (rd x12_4 x13_2)) = true := decide_eq_true c58
                    clear c58
                    replace H := Option.bind_eq_some_iff.mp H
                    obtain ⟨⟨t202, t203, t206⟩, A590, H⟩ := H
                    replace H : (spec_Zigzag.l2 k4 x10_4 x12_4 x13_2 x14_3 (wrap64 (x15_4 + 1)) a1_0 a1_1 l1_2 a1_0 a1_1 l1_2 a2 t206 t202 t203) = some (r1, r2) := H
                    have A59 := zA A590
                    clear A590
                    have H' := zA H
                    clear H
                    have hnb60 := NB178_177.out
                    have hnc60 := NB177_178.out
                    have hnb61 := NB178_195.out
                    have hnc61 := NB195_178.out
                    have hcz62_0 : wr.cell? ⟨gb178, 0, none⟩ = some (.int .i64 a1_0) := (blk_cell BK178.out 0).trans rfl
                    have hcz62_1 : wr.cell? ⟨gb178, 1, none⟩ = some (.int .i64 a1_1) := (blk_cell BK178.out 1).trans rfl
                    have hcz62_2 : wr.cell? ⟨gb178, 2, none⟩ = some (.slice A1_2 l1_2.length c1_2) := (blk_cell BK178.out 2).trans rfl
                    have hfz62_0 := blk_frozen BK178.out 0
                    have hfz62_1 := blk_frozen BK178.out 1
                    have hfz62_2 := blk_frozen BK178.out 2
                    try go_wp2
                    have n0_ := zA (zG HO_10.out)
                    have n1_ := zA (zG HO_12.out)
                    have n2_ := zA (zG HO_196004.out)
                    have n3_ := zA (zG HO_196006.out)
                    have n4_ := zA (zN BK177.out)
                    have n5_ := zA (zN BK178.out)
                    have n6_ := zA (zN BK195.out)
                    have n7_ := zA (zQ HB.out)
                    clear HO_10
                    clear HO_12
                    clear HO_196004
                    clear HO_196006
                    clear BK177
                    clear BK178
                    clear BK195
                    clear HB
                    have HO_10 := n0_
                    have HO_12 := n1_
                    have HO_196004 := n2_
                    have HO_196006 := n3_
                    have BK177 := n4_
                    have BK178 := n5_
                    have BK195 := n6_
                    have HB := n7_
                    clear n0_ n1_ n2_ n3_ n4_ n5_ n6_ n7_
                    obtain ⟨Ao64, co64, eo64⟩ := Kd.R_slice HO_10.out
                    (first | subst eo64 | (injection eo64 with f1_ f2_ f3_; have f4_ := f1_.symm; have f5_ := f3_.symm; clear f1_ f2_ f3_; subst f4_; subst f5_))
                    have p199 : 0 ≤ ((ji53) : Int) := of_decide_eq_true (by first | (with_reducible assumption) | assumption)
                    have q199 : (ji53) < (x10_4.length : Int) := of_decide_eq_true (by first | (with_reducible assumption) | assumption)
                    obtain ⟨ad199, e199, hx199_0⟩ := Kd.at_int (zK HO_10.out).2.2 (ji53) p199 q199
                    cases e199
                    replace p199 := eq_true p199
                    replace q199 := eq_true q199
                    have p200 : 0 ≤ (x13_2 : Int) := of_decide_eq_true (by first | (with_reducible assumption) | assumption)
                    have q200 : x13_2 < (x12_4.length : Int) := of_decide_eq_true (by first | (with_reducible assumption) | assumption)
                    obtain ⟨ad200, e200, hx200_0⟩ := Kd.at_int (zK HO_12.out).2.2 x13_2 p200 q200
                    cases e200
                    replace p200 := eq_true p200
                    replace q200 := eq_true q200
                    refine start_ (n := 14) (S := fun w' => w'.cell? ⟨gb178, 0, none⟩ = some (.int .i64 a1_0) ∧ w'.cell? ⟨gb178, 1, none⟩ = some (.int .i64 a1_1) ∧ w'.cell? ⟨gb178, 2, none⟩ = some (.slice A1_2 l1_2.length c1_2) ∧ w'.cell? (ad199.add ((ji53)).toNat) = some (.int .i64 (rd x10_4 (ji53))) ∧ w'.cell? (ad200.add (x13_2).toNat) = some (.int .i64 (rd x12_4 x13_2))) (ds := []) #[false, false, false, false, false, false, false, false, false, false, false, false, false, false] (by kernel_rfl) rfl rfl ⟨(blk_cell BK178.out 0).trans rfl, (blk_cell BK178.out 1).trans rfl, (blk_cell BK178.out 2).trans rfl, hx199_0, hx200_0⟩ (fun hHeld => ?_); refine with_tabW spec_Zigzag.tab18 spec_Zigzag.bits18 (fun HT_ HW_ => ?_)
                    generalize wr.drew = w63 at HO_10 HO_12 HO_196004 HO_196006 BK177 BK178 BK195 HB hx199_0 hx200_0 hHeld ⊢
                    refine pure_ (i := 0) (N := some 78) (v := ?_) (a' := ?_) #[true, false, false, false, false, false, false, false, false, false, false, false, false, false] rfl rfl (any_of HT_.out (by kernel_rfl)) (fun _ _ _ h => h) (Or.inl ⟨by rfl, ?_⟩) ?_ ?_
                    rotate_left
                    ·intro w'
                     go_simp
                     with_reducible rfl
                    rotate_left
                    ·simp only [Act.put, zB, zC, zD, i64_w, i32_w]
                     rfl
                    refine pure_ (i := 1) (N := some 79) (v := ?_) (a' := ?_) #[true, true, false, false, false, false, false, false, false, false, false, false, false, false] rfl rfl (any_of HT_.out (by kernel_rfl)) (fun _ _ _ h => h) (Or.inl ⟨by rfl, ?_⟩) ?_ ?_
                    rotate_left
                    ·intro w'
                     go_simp
                     with_reducible rfl
                    rotate_left
                    ·simp only [Act.put, zB, zC, zD, i64_w, i32_w]
                     rfl
                    refine pure_ (i := 2) (N := some 80) (v := ?_) (a' := ?_) #[true, true, true, false, false, false, false, false, false, false, false, false, false, false] rfl rfl (any_of HT_.out (by kernel_rfl)) (fun _ _ _ h => h) (Or.inl ⟨by rfl, ?_⟩) ?_ ?_
                    rotate_left
                    ·intro w'
                     go_simp
                     with_reducible rfl
                    rotate_left
                    ·simp only [Act.put, zB, zC, zD, i64_w, i32_w]
                     rfl
                    refine pure_ (i := 5) (N := some 83) (v := ?_) (a' := ?_) #[true, true, true, false, false, true, false, false, false, false, false, false, false, false] rfl rfl (any_of HT_.out (by kernel_rfl)) (fun _ _ _ h => h) (Or.inl ⟨by rfl, ?_⟩) ?_ ?_
                    rotate_left
                    ·intro w'
                     go_simp
                     with_reducible rfl
                    rotate_left
                    ·simp only [Act.put, zB, zC, zD, i64_w, i32_w]
                     rfl
                    refine pure_ (i := 9) (N := some 87) (v := ?_) (a' := ?_) #[true, true, true, false, false, true, false, false, false, true, false, false, false, false] rfl rfl (any_of HT_.out (by kernel_rfl)) (fun _ _ _ h => h) (Or.inl ⟨by rfl, ?_⟩) ?_ ?_
                    rotate_left
                    ·intro w'
                     go_simp
                     with_reducible rfl
                    rotate_left
                    ·simp only [Act.put, zB, zC, zD, i64_w, i32_w]
                     rfl
                    refine pure_ (i := 10) (N := some 88) (v := ?_) (a' := ?_) #[true, true, true, false, false, true, false, false, false, true, true, false, false, false] rfl rfl (any_of HT_.out (by kernel_rfl)) (fun _ _ _ h => h) (Or.inl ⟨by rfl, ?_⟩) ?_ ?_
                    rotate_left
                    ·intro w'
                     go_simp
                     with_reducible rfl
                    rotate_left
                    ·simp only [Act.put, zB, zC, zD, i64_w, i32_w]
                     rfl
                    refine pure_ (i := 11) (N := some 89) (v := ?_) (a' := ?_) #[true, true, true, false, false, true, false, false, false, true, true, true, false, false] rfl rfl (any_of HT_.out (by kernel_rfl)) (fun _ _ _ h => h) (Or.inl ⟨by rfl, ?_⟩) ?_ ?_
                    rotate_left
                    ·intro w'
                     go_simp
                     with_reducible rfl
                    rotate_left
                    ·simp only [Act.put, zB, zC, zD, i64_w, i32_w]
                     rfl
                    refine take_ (i := 3) (N := some 81) (v := ?_) (a' := ?_) #[true, true, true, true, false, true, false, false, false, true, true, true, false, false] rfl rfl (take_ofW HT_.out HW_.out (by kernel_rfl)) (fun _ _ _ h => h) (Or.inl ⟨by rfl, ?_⟩) hHeld ?_ ?_
                    rotate_left
                    ·rintro w' ⟨s0, s1, s2, s3, s4⟩
                     go_simp
                     with_reducible rfl
                    rotate_left
                    ·simp only [Act.put, zB, zC, zD, i64_w, i32_w]
                     rfl
                    refine pure_ (i := 4) (N := some 82) (v := ?_) (a' := ?_) #[true, true, true, true, true, true, false, false, false, true, true, true, false, false] rfl rfl (any_of HT_.out (by kernel_rfl)) (fun _ _ _ h => h) (Or.inl ⟨by rfl, ?_⟩) ?_ ?_
                    rotate_left
                    ·intro w'
                     go_simp
                     with_reducible rfl
                    rotate_left
                    ·simp only [Act.put, zB, zC, zD, i64_w, i32_w]
                     rfl
                    refine pure_ (i := 6) (N := some 84) (v := ?_) (a' := ?_) #[true, true, true, true, true, true, true, false, false, true, true, true, false, false] rfl rfl (any_of HT_.out (by kernel_rfl)) (fun _ _ _ h => h) (Or.inl ⟨by rfl, ?_⟩) ?_ ?_
                    rotate_left
                    ·intro w'
                     go_simp
                     with_reducible rfl
                    rotate_left
                    ·simp only [Act.put, zB, zC, zD, i64_w, i32_w]
                     rfl
                    refine pure_ (i := 7) (N := some 85) (v := ?_) (a' := ?_) #[true, true, true, true, true, true, true, true, false, true, true, true, false, false] rfl rfl (any_of HT_.out (by kernel_rfl)) (fun _ _ _ h => h) (Or.inl ⟨by rfl, ?_⟩) ?_ ?_
                    rotate_left
                    ·intro w'
                     go_simp
                     with_reducible rfl
                    rotate_left
                    ·simp only [Act.put, zB, zC, zD, i64_w, i32_w]
                     rfl
                    refine take_ (i := 8) (N := some 86) (v := ?_) (a' := ?_) #[true, true, true, true, true, true, true, true, true, true, true, true, false, false] rfl rfl (take_ofW HT_.out HW_.out (by kernel_rfl)) (fun _ _ _ h => h) (Or.inl ⟨by rfl, ?_⟩) hHeld ?_ ?_
                    rotate_left
                    ·rintro w' ⟨s0, s1, s2, s3, s4⟩
                     go_simp
                     with_reducible rfl
                    rotate_left
                    ·simp only [Act.put, zB, zC, zD, i64_w, i32_w]
                     rfl
                    refine take_ (i := 12) (N := some 90) (v := ?_) (a' := ?_) #[true, true, true, true, true, true, true, true, true, true, true, true, true, false] rfl rfl (take_ofW HT_.out HW_.out (by kernel_rfl)) (fun _ _ _ h => h) (Or.inl ⟨by rfl, ?_⟩) hHeld ?_ ?_
                    rotate_left
                    ·rintro w' ⟨s0, s1, s2, s3, s4⟩
                     go_simp
                     with_reducible rfl
                    rotate_left
                    ·simp only [Act.put, zB, zC, zD, i64_w, i32_w]
                     rfl
                    refine pure_ (i := 13) (N := some 91) (v := ?_) (a' := ?_) #[true, true, true, true, true, true, true, true, true, true, true, true, true, true] rfl rfl (any_of HT_.out (by kernel_rfl)) (fun _ _ _ h => h) (Or.inl ⟨by rfl, ?_⟩) ?_ ?_
                    rotate_left
                    ·intro w'
                     go_simp
                     with_reducible rfl
                    rotate_left
                    ·simp only [Act.put, zB, zC, zD, i64_w, i32_w]
                     rfl
                    refine done_ (done_of HT_.out (by kernel_rfl)) ?_
                    have p201 : 0 ≤ (x13_2 : Int) := of_decide_eq_true (by first | (with_reducible assumption) | assumption)
                    have q201 : x13_2 < (x12_4.length : Int) := of_decide_eq_true (by first | (with_reducible assumption) | assumption)
                    obtain ⟨ad201, e201, hx201_0⟩ := Kd.at_int (zK HO_12.out).2.2 x13_2 p201 q201
                    obtain rfl : ad200 = ad201 := (by injection e201)
                    replace p201 := eq_true p201
                    replace q201 := eq_true q201
                    have hnb65 := NB195_177.out
                    have hnc65 := NB177_195.out
                    have hcz66_0 : w63.cell? ⟨gb195, 0, none⟩ = some (.int .i64 a1_0) := (blk_cell BK195.out 0).trans rfl
                    have hcz66_1 : w63.cell? ⟨gb195, 1, none⟩ = some (.int .i64 a1_1) := (blk_cell BK195.out 1).trans rfl
                    have hcz66_2 : w63.cell? ⟨gb195, 2, none⟩ = some (.slice A1_2 l1_2.length c1_2) := (blk_cell BK195.out 2).trans rfl
                    have hcz66_3 : w63.cell? ⟨gb195, 3, none⟩ = some (.int .i64 a2) := (blk_cell BK195.out 3).trans rfl
                    have hcz66_4 : w63.cell? ⟨gb195, 4, none⟩ = some (u196004) := (blk_cell BK195.out 4).trans rfl
                    have hcz66_5 : w63.cell? ⟨gb195, 5, none⟩ = some (.int .i64 x196005_4) := (blk_cell BK195.out 5).trans rfl
                    have hcz66_6 : w63.cell? ⟨gb195, 6, none⟩ = some (u196006) := (blk_cell BK195.out 6).trans rfl
                    have hfz66_0 := blk_frozen BK195.out 0
                    have hfz66_1 := blk_frozen BK195.out 1
                    have hfz66_2 := blk_frozen BK195.out 2
                    have hfz66_3 := blk_frozen BK195.out 3
                    have hfz66_4 := blk_frozen BK195.out 4
                    have hfz66_5 := blk_frozen BK195.out 5
                    have hfz66_6 := blk_frozen BK195.out 6
                    obtain ⟨Ao67, co67, eo67⟩ := Kd.R_slice HO_196004.out
                    subst eo67
                    obtain ⟨Ao68, co68, eo68⟩ := Kd.R_slice HO_196006.out
                    subst eo68
                    try go_wp2_with (first | ((with_reducible refine gate_callee (f := 59) rfl ?_); refine goesL_ (some 99) rfl rfl Try.func59 (by kernel_rfl) rfl #[.pointer (some ⟨gb195, 0, none⟩), .int .i64 (wrap64 ((wrap64 (a1_0 - 1)) - x15_4)), .int .i64 x14_3, .int .i64 (rd x12_4 x13_2)] rfl (by (try simp only [List.map_toArray, List.map_cons, List.map_nil]); first | done | rfl | (simp only [List.length_drop, List.length_take]; rfl)) ?_; (with_reducible refine (spec_l11Run_stand.calls k4 0 (wrap64 ((wrap64 (a1_0 - 1)) - x15_4)) x14_3 (rd x12_4 x13_2) a1_0 a1_1 A1_2 c1_2 l1_2 a2 (fun k_ => some k_ = (.slice Ao67 x196004_4.length co67 : Value).ownBlock ∨ k_ = gb195) (.slice Ao67 x196004_4.length co67) x196004_4 x196005_4 (fun k_ => some k_ = (.slice Ao68 x196006_4.length co68 : Value).ownBlock) (.slice Ao68 x196006_4.length co68) x196006_4 t202 t203 t206 w _ ?side1 ?side2 ?side3 ?side4 ?side5 gb195 ?sideM (.inr rfl) GE195.out A59.out).mono ?_); (case side1 => repeat (first | (with_reducible first | exact HB.out | apply zR | apply zP | apply zQ | refine zS ?_ GE177.out | refine zS ?_ GE178.out | refine zS ?_ GE195.out) | exact HB.out)); (case side2 => exact Kd.C_kept_came (Kd.heap_int .i64) HR1_2.out (bB_ HB) (fun k_ hs_ => Or.elim hs_ (fun e0_ => Or.elim e0_ (fun e_ => (fun e_ => Kd.R_base HO_196004.out k_ e_.symm) e_) (fun e_ => by rw [e_]; exact GE195.out)) (fun e_ => (fun e_ => Kd.R_base HO_196006.out k_ e_.symm) e_))); (case side3 => exact HC1_2.out); (case side4 => exact Kd.R_mono (Kd.R_tight rfl HO_196004.out) (fun _ h_ => .inl h_)); (case side5 => exact Kd.R_tight rfl HO_196006.out); (case sideM => (with_reducible repeat (first | refine zM ?_ _ | refine zN ?_ | refine zO ?_ _)); exact BK195.out); rintro e w69 ⟨v204, rfl, hMg, ho0, hy0, hb, hkp⟩; refine ⟨_, rfl, ?_⟩; have n0_ := zA (Kd.R_mono (ok' := fun k_ => some k_ ≠ (.slice (some ad200) x12_4.length co46 : Value).ownBlock ∧ some k_ ≠ (.slice Ao67 x196004_4.length co67 : Value).ownBlock) (Kd.R_keptB (Kd.R_types ((Kd.R_apart' HO_10.out (Kd.R_typed HO_196006.out) (by decide))) BK195.out (by decide)) hkp (fun k_ hk_ hs_ => Or.elim hs_ (fun e0_ => Or.elim e0_ (fun e_ => (hk_.1.1.2) e_) (fun e_ => hk_.2 e_)) (fun e_ => (hk_.1.2) e_))) (fun k_ hk_ => ⟨hk_.1.1.1.1, hk_.1.1.1.2⟩)); have n1_ := zA (Kd.R_mono (ok' := fun k_ => some k_ ≠ (.slice (some ad199) x10_4.length co64 : Value).ownBlock ∧ some k_ ≠ (.slice Ao67 x196004_4.length co67 : Value).ownBlock) (Kd.R_keptB (Kd.R_types ((Kd.R_apart' HO_12.out (Kd.R_typed HO_196006.out) (by decide))) BK195.out (by decide)) hkp (fun k_ hk_ hs_ => Or.elim hs_ (fun e0_ => Or.elim e0_ (fun e_ => (hk_.1.1.2) e_) (fun e_ => hk_.2 e_)) (fun e_ => (hk_.1.2) e_))) (fun k_ hk_ => ⟨hk_.1.1.1.1, hk_.1.1.1.2⟩)); have n2_ := zA (Kd.R_reok rfl hy0 (fun k_ e_ => HO_196004.out.1 k_ e_)); have n3_ := zA (blk_kept (bA_ BK177) hkp (fun hs_ => Or.elim hs_ (fun e0_ => Or.elim e0_ (fun e_ => (fun e_ => (Kd.R_ne HO_196004.out BK177.out (by decide)) e_) e_) (fun e_ => NB177_195.out e_)) (fun e_ => (fun e_ => (Kd.R_ne HO_196006.out BK177.out (by decide)) e_) e_))); have n4_ := zA (blk_kept (bA_ BK178) hkp (fun hs_ => Or.elim hs_ (fun e0_ => Or.elim e0_ (fun e_ => (fun e_ => (Kd.R_ne HO_196004.out BK178.out (by decide)) e_) e_) (fun e_ => NB178_195.out e_)) (fun e_ => (fun e_ => (Kd.R_ne HO_196006.out BK178.out (by decide)) e_) e_))); have n5_ := zA hMg; have n6_ := zA (Kd.R_mono (ok' := fun k_ => True) ho0 (fun k_ hk_ => trivial)); have n7_ := zA (hb); clear HO_10; clear HO_12; clear HO_196004; clear BK177; clear BK178; clear BK195; clear HB; clear HO_196006; have HO_10 := n0_; have HO_12 := n1_; have HO_196004 := n2_; have BK177 := n3_; have BK178 := n4_; have BK195 := n5_; have HO205 := n6_; have HB := n7_; clear n0_ n1_ n2_ n3_ n4_ n5_ n6_ n7_; (try clear hb); (try clear hkp); (try clear ho0); (try clear hy0); have hcz70_0 : w69.cell? ⟨gb195, 0, none⟩ = some (.int .i64 a1_0) := (blk_cell BK195.out 0).trans rfl; have hcz70_1 : w69.cell? ⟨gb195, 1, none⟩ = some (.int .i64 a1_1) := (blk_cell BK195.out 1).trans rfl; have hcz70_2 : w69.cell? ⟨gb195, 2, none⟩ = some (.slice A1_2 l1_2.length c1_2) := (blk_cell BK195.out 2).trans rfl; have hcz70_3 : w69.cell? ⟨gb195, 3, none⟩ = some (.int .i64 a2) := (blk_cell BK195.out 3).trans rfl; have hcz70_4 : w69.cell? ⟨gb195, 4, none⟩ = some (.slice Ao67 x196004_4.length co67) := (blk_cell BK195.out 4).trans rfl; have hcz70_5 : w69.cell? ⟨gb195, 5, none⟩ = some (.int .i64 t202) := (blk_cell BK195.out 5).trans rfl; have hcz70_6 : w69.cell? ⟨gb195, 6, none⟩ = some (v204) := (blk_cell BK195.out 6).trans rfl; have hfz70_0 := blk_frozen BK195.out 0; have hfz70_1 := blk_frozen BK195.out 1; have hfz70_2 := blk_frozen BK195.out 2; have hfz70_3 := blk_frozen BK195.out 3; have hfz70_4 := blk_frozen BK195.out 4; have hfz70_5 := blk_frozen BK195.out 5; have hfz70_6 := blk_frozen BK195.out 6; obtain ⟨Ao71, co71, eo71⟩ := Kd.R_slice HO205.out; subst eo71))
                    (try simp only [← hl12_4])
                    go_roundg k4
                    case measure => have := HJ4.out; have := HK2.out; have := HK3.out; have := HK4.out; omega
                    case rel => exact ⟨(x10_4), (x12_4), (wrap64 (x15_4 + 1)), (t206), (t202), (t203), (.slice Ao67 x196004_4.length co67), (.slice Ao71 t203.length co71), (by first | rfl | (simp; done) | (simp [*]; done)), H', ⟨by have := HJ4.out; have := HK2.out; have := HK3.out; have := HK4.out; omega⟩, ⟨by (try simp only [hl12_3]); (try simp only [hl12_4]); (with_reducible repeat (first | apply zF | apply zE | apply zG)); exact Kd.R_mono (Kd.R_types HO_10.out BK195.out (by decide)) (fun _ hk => ⟨hk.1.1, hk.1.2⟩)⟩, ⟨by (try simp only [hl12_3]); (try simp only [hl12_4]); (with_reducible repeat (first | apply zF | apply zE | apply zG)); exact Kd.R_mono (Kd.R_types HO_12.out BK195.out (by decide)) (fun _ hk => ⟨hk.1.1, hk.1.2⟩)⟩, ⟨by (try simp only [hl12_3]); (try simp only [hl12_4]); (with_reducible repeat (first | apply zF | apply zE | apply zG)); exact Kd.R_mono (Kd.R_types HO_196004.out BK195.out (by decide)) (fun _ hk => ⟨hk.1.1, hk.1.2⟩)⟩, ⟨by (try simp only [hl12_3]); (try simp only [hl12_4]); (with_reducible repeat (first | apply zF | apply zE | apply zG)); exact Kd.R_mono (Kd.R_types HO205.out BK195.out (by decide)) (fun _ hk => trivial)⟩, ⟨by (try simp only [hl12_3]); (try simp only [hl12_4]); (with_reducible repeat (first | refine zM ?_ _ | refine zN ?_ | refine zO ?_ _)); exact BK177.out⟩, ⟨by (try simp only [hl12_3]); (try simp only [hl12_4]); (with_reducible repeat (first | refine zM ?_ _ | refine zN ?_ | refine zO ?_ _)); exact BK178.out⟩, ⟨by (try simp only [hl12_3]); (try simp only [hl12_4]); (with_reducible repeat (first | refine zM ?_ _ | refine zN ?_ | refine zO ?_ _)); exact BK195.out⟩, ⟨bB_ HB⟩⟩
                   ·rw [if_neg c58] at H
                    have c58b0 : decide ((rd x10_4 (ji53)) ≤ (rd x12_4 x13_2)) = false := decide_eq_false c58
                    clear c58
                    have H' := zA H
                    clear H
                    have hnb72 := NB178_177.out
                    have hnc72 := NB177_178.out
                    have hnb73 := NB178_195.out
                    have hnc73 := NB195_178.out
                    have hcz74_0 : wr.cell? ⟨gb178, 0, none⟩ = some (.int .i64 a1_0) := (blk_cell BK178.out 0).trans rfl
                    have hcz74_1 : wr.cell? ⟨gb178, 1, none⟩ = some (.int .i64 a1_1) := (blk_cell BK178.out 1).trans rfl
                    have hcz74_2 : wr.cell? ⟨gb178, 2, none⟩ = some (.slice A1_2 l1_2.length c1_2) := (blk_cell BK178.out 2).trans rfl
                    have hfz74_0 := blk_frozen BK178.out 0
                    have hfz74_1 := blk_frozen BK178.out 1
                    have hfz74_2 := blk_frozen BK178.out 2
                    try go_wp2
                    have n0_ := zA (zG HO_10.out)
                    have n1_ := zA (zG HO_12.out)
                    have n2_ := zA (zG HO_196004.out)
                    have n3_ := zA (zG HO_196006.out)
                    have n4_ := zA (zN BK177.out)
                    have n5_ := zA (zN BK178.out)
                    have n6_ := zA (zN BK195.out)
                    have n7_ := zA (zQ HB.out)
                    clear HO_10
                    clear HO_12
                    clear HO_196004
                    clear HO_196006
                    clear BK177
                    clear BK178
                    clear BK195
                    clear HB
                    have HO_10 := n0_
                    have HO_12 := n1_
                    have HO_196004 := n2_
                    have HO_196006 := n3_
                    have BK177 := n4_
                    have BK178 := n5_
                    have BK195 := n6_
                    have HB := n7_
                    clear n0_ n1_ n2_ n3_ n4_ n5_ n6_ n7_
                    obtain ⟨Ao76, co76, eo76⟩ := Kd.R_slice HO_10.out
                    (first | subst eo76 | (injection eo76 with f1_ f2_ f3_; have f4_ := f1_.symm; have f5_ := f3_.symm; clear f1_ f2_ f3_; subst f4_; subst f5_))
                    have p199 : 0 ≤ ((ji53) : Int) := of_decide_eq_true (by first | (with_reducible assumption) | assumption)
                    have q199 : (ji53) < (x10_4.length : Int) := of_decide_eq_true (by first | (with_reducible assumption) | assumption)
                    obtain ⟨ad199, e199, hx199_0⟩ := Kd.at_int (zK HO_10.out).2.2 (ji53) p199 q199
                    cases e199
                    replace p199 := eq_true p199
                    replace q199 := eq_true q199
                    have p200 : 0 ≤ (x13_2 : Int) := of_decide_eq_true (by first | (with_reducible assumption) | assumption)
                    have q200 : x13_2 < (x12_4.length : Int) := of_decide_eq_true (by first | (with_reducible assumption) | assumption)
                    obtain ⟨ad200, e200, hx200_0⟩ := Kd.at_int (zK HO_12.out).2.2 x13_2 p200 q200
                    cases e200
                    replace p200 := eq_true p200
                    replace q200 := eq_true q200
                    refine start_ (n := 14) (S := fun w' => w'.cell? ⟨gb178, 0, none⟩ = some (.int .i64 a1_0) ∧ w'.cell? ⟨gb178, 1, none⟩ = some (.int .i64 a1_1) ∧ w'.cell? ⟨gb178, 2, none⟩ = some (.slice A1_2 l1_2.length c1_2) ∧ w'.cell? (ad199.add ((ji53)).toNat) = some (.int .i64 (rd x10_4 (ji53))) ∧ w'.cell? (ad200.add (x13_2).toNat) = some (.int .i64 (rd x12_4 x13_2))) (ds := []) #[false, false, false, false, false, false, false, false, false, false, false, false, false, false] (by kernel_rfl) rfl rfl ⟨(blk_cell BK178.out 0).trans rfl, (blk_cell BK178.out 1).trans rfl, (blk_cell BK178.out 2).trans rfl, hx199_0, hx200_0⟩ (fun hHeld => ?_); refine with_tabW spec_Zigzag.tab18 spec_Zigzag.bits18 (fun HT_ HW_ => ?_)
                    generalize wr.drew = w75 at HO_10 HO_12 HO_196004 HO_196006 BK177 BK178 BK195 HB hx199_0 hx200_0 hHeld ⊢
                    refine pure_ (i := 0) (N := some 78) (v := ?_) (a' := ?_) #[true, false, false, false, false, false, false, false, false, false, false, false, false, false] rfl rfl (any_of HT_.out (by kernel_rfl)) (fun _ _ _ h => h) (Or.inl ⟨by rfl, ?_⟩) ?_ ?_
                    rotate_left
                    ·intro w'
                     go_simp
                     with_reducible rfl
                    rotate_left
                    ·simp only [Act.put, zB, zC, zD, i64_w, i32_w]
                     rfl
                    refine pure_ (i := 1) (N := some 79) (v := ?_) (a' := ?_) #[true, true, false, false, false, false, false, false, false, false, false, false, false, false] rfl rfl (any_of HT_.out (by kernel_rfl)) (fun _ _ _ h => h) (Or.inl ⟨by rfl, ?_⟩) ?_ ?_
                    rotate_left
                    ·intro w'
                     go_simp
                     with_reducible rfl
                    rotate_left
                    ·simp only [Act.put, zB, zC, zD, i64_w, i32_w]
                     rfl
                    refine pure_ (i := 2) (N := some 80) (v := ?_) (a' := ?_) #[true, true, true, false, false, false, false, false, false, false, false, false, false, false] rfl rfl (any_of HT_.out (by kernel_rfl)) (fun _ _ _ h => h) (Or.inl ⟨by rfl, ?_⟩) ?_ ?_
                    rotate_left
                    ·intro w'
                     go_simp
                     with_reducible rfl
                    rotate_left
                    ·simp only [Act.put, zB, zC, zD, i64_w, i32_w]
                     rfl
                    refine pure_ (i := 5) (N := some 83) (v := ?_) (a' := ?_) #[true, true, true, false, false, true, false, false, false, false, false, false, false, false] rfl rfl (any_of HT_.out (by kernel_rfl)) (fun _ _ _ h => h) (Or.inl ⟨by rfl, ?_⟩) ?_ ?_
                    rotate_left
                    ·intro w'
                     go_simp
                     with_reducible rfl
                    rotate_left
                    ·simp only [Act.put, zB, zC, zD, i64_w, i32_w]
                     rfl
                    refine pure_ (i := 9) (N := some 87) (v := ?_) (a' := ?_) #[true, true, true, false, false, true, false, false, false, true, false, false, false, false] rfl rfl (any_of HT_.out (by kernel_rfl)) (fun _ _ _ h => h) (Or.inl ⟨by rfl, ?_⟩) ?_ ?_
                    rotate_left
                    ·intro w'
                     go_simp
                     with_reducible rfl
                    rotate_left
                    ·simp only [Act.put, zB, zC, zD, i64_w, i32_w]
                     rfl
                    refine pure_ (i := 10) (N := some 88) (v := ?_) (a' := ?_) #[true, true, true, false, false, true, false, false, false, true, true, false, false, false] rfl rfl (any_of HT_.out (by kernel_rfl)) (fun _ _ _ h => h) (Or.inl ⟨by rfl, ?_⟩) ?_ ?_
                    rotate_left
                    ·intro w'
                     go_simp
                     with_reducible rfl
                    rotate_left
                    ·simp only [Act.put, zB, zC, zD, i64_w, i32_w]
                     rfl
                    refine pure_ (i := 11) (N := some 89) (v := ?_) (a' := ?_) #[true, true, true, false, false, true, false, false, false, true, true, true, false, false] rfl rfl (any_of HT_.out (by kernel_rfl)) (fun _ _ _ h => h) (Or.inl ⟨by rfl, ?_⟩) ?_ ?_
                    rotate_left
                    ·intro w'
                     go_simp
                     with_reducible rfl
                    rotate_left
                    ·simp only [Act.put, zB, zC, zD, i64_w, i32_w]
                     rfl
                    refine take_ (i := 3) (N := some 81) (v := ?_) (a' := ?_) #[true, true, true, true, false, true, false, false, false, true, true, true, false, false] rfl rfl (take_ofW HT_.out HW_.out (by kernel_rfl)) (fun _ _ _ h => h) (Or.inl ⟨by rfl, ?_⟩) hHeld ?_ ?_
                    rotate_left
                    ·rintro w' ⟨s0, s1, s2, s3, s4⟩
                     go_simp
                     with_reducible rfl
                    rotate_left
                    ·simp only [Act.put, zB, zC, zD, i64_w, i32_w]
                     rfl
                    refine pure_ (i := 4) (N := some 82) (v := ?_) (a' := ?_) #[true, true, true, true, true, true, false, false, false, true, true, true, false, false] rfl rfl (any_of HT_.out (by kernel_rfl)) (fun _ _ _ h => h) (Or.inl ⟨by rfl, ?_⟩) ?_ ?_
                    rotate_left
                    ·intro w'
                     go_simp
                     with_reducible rfl
                    rotate_left
                    ·simp only [Act.put, zB, zC, zD, i64_w, i32_w]
                     rfl
                    refine pure_ (i := 6) (N := some 84) (v := ?_) (a' := ?_) #[true, true, true, true, true, true, true, false, false, true, true, true, false, false] rfl rfl (any_of HT_.out (by kernel_rfl)) (fun _ _ _ h => h) (Or.inl ⟨by rfl, ?_⟩) ?_ ?_
                    rotate_left
                    ·intro w'
                     go_simp
                     with_reducible rfl
                    rotate_left
                    ·simp only [Act.put, zB, zC, zD, i64_w, i32_w]
                     rfl
                    refine pure_ (i := 7) (N := some 85) (v := ?_) (a' := ?_) #[true, true, true, true, true, true, true, true, false, true, true, true, false, false] rfl rfl (any_of HT_.out (by kernel_rfl)) (fun _ _ _ h => h) (Or.inl ⟨by rfl, ?_⟩) ?_ ?_
                    rotate_left
                    ·intro w'
                     go_simp
                     with_reducible rfl
                    rotate_left
                    ·simp only [Act.put, zB, zC, zD, i64_w, i32_w]
                     rfl
                    refine take_ (i := 8) (N := some 86) (v := ?_) (a' := ?_) #[true, true, true, true, true, true, true, true, true, true, true, true, false, false] rfl rfl (take_ofW HT_.out HW_.out (by kernel_rfl)) (fun _ _ _ h => h) (Or.inl ⟨by rfl, ?_⟩) hHeld ?_ ?_
                    rotate_left
                    ·rintro w' ⟨s0, s1, s2, s3, s4⟩
                     go_simp
                     with_reducible rfl
                    rotate_left
                    ·simp only [Act.put, zB, zC, zD, i64_w, i32_w]
                     rfl
                    refine take_ (i := 12) (N := some 90) (v := ?_) (a' := ?_) #[true, true, true, true, true, true, true, true, true, true, true, true, true, false] rfl rfl (take_ofW HT_.out HW_.out (by kernel_rfl)) (fun _ _ _ h => h) (Or.inl ⟨by rfl, ?_⟩) hHeld ?_ ?_
                    rotate_left
                    ·rintro w' ⟨s0, s1, s2, s3, s4⟩
                     go_simp
                     with_reducible rfl
                    rotate_left
                    ·simp only [Act.put, zB, zC, zD, i64_w, i32_w]
                     rfl
                    refine pure_ (i := 13) (N := some 91) (v := ?_) (a' := ?_) #[true, true, true, true, true, true, true, true, true, true, true, true, true, true] rfl rfl (any_of HT_.out (by kernel_rfl)) (fun _ _ _ h => h) (Or.inl ⟨by rfl, ?_⟩) ?_ ?_
                    rotate_left
                    ·intro w'
                     go_simp
                     with_reducible rfl
                    rotate_left
                    ·simp only [Act.put, zB, zC, zD, i64_w, i32_w]
                     rfl
                    refine done_ (done_of HT_.out (by kernel_rfl)) ?_
                    try go_wp2
                    (try simp only [← hl12_4])
                    go_roundg k4
                    case measure => have := HJ4.out; have := HK2.out; have := HK3.out; have := HK4.out; omega
                    case rel => exact ⟨(x10_4), (x12_4), (wrap64 (x15_4 + 1)), (x196004_4), (x196005_4), (x196006_4), (u196004), (u196006), (by first | rfl | (simp; done) | (simp [*]; done)), H', ⟨by have := HJ4.out; have := HK2.out; have := HK3.out; have := HK4.out; omega⟩, ⟨by (try simp only [hl12_3]); (try simp only [hl12_4]); (with_reducible repeat (first | apply zF | apply zE | apply zG)); exact HO_10.out⟩, ⟨by (try simp only [hl12_3]); (try simp only [hl12_4]); (with_reducible repeat (first | apply zF | apply zE | apply zG)); exact HO_12.out⟩, ⟨by (try simp only [hl12_3]); (try simp only [hl12_4]); (with_reducible repeat (first | apply zF | apply zE | apply zG)); exact HO_196004.out⟩, ⟨by (try simp only [hl12_3]); (try simp only [hl12_4]); (with_reducible repeat (first | apply zF | apply zE | apply zG)); exact HO_196006.out⟩, ⟨by (try simp only [hl12_3]); (try simp only [hl12_4]); (with_reducible repeat (first | refine zM ?_ _ | refine zN ?_ | refine zO ?_ _)); exact BK177.out⟩, ⟨by (try simp only [hl12_3]); (try simp only [hl12_4]); (with_reducible repeat (first | refine zM ?_ _ | refine zN ?_ | refine zO ?_ _)); exact BK178.out⟩, ⟨by (try simp only [hl12_3]); (try simp only [hl12_4]); (with_reducible repeat (first | refine zM ?_ _ | refine zN ?_ | refine zO ?_ _)); exact BK195.out⟩, ⟨bB_ HB⟩⟩
                  ·rw [if_neg c57] at H
                   exact absurd H (by simp)
                 ·rw [if_neg c56] at H
                  exact absurd H (by simp)
                ·rw [if_neg c55] at H
                 exact absurd H (by simp)
               ·rw [if_neg c54] at H
                exact absurd H (by simp)
              ·rw [if_neg c52] at H
               have c52b0 : ((Int.tmod x14_3 2) == 1) = false := beq_eq_false_iff_ne.mpr c52
               have c52b1 : ((Int.tmod x14_3 2) != 1) = true := bne_iff_ne.mpr c52
               obtain ⟨ji77, hji77⟩ : ∃ j_ : Int, (wrap64 ((wrap64 (x14_3 * a1_0)) + x15_4)) = j_ := ⟨_, rfl⟩
               replace H : (if 0 ≤ (ji77) then (if (ji77) < (x10_4.length : Int) then (if 0 ≤ x13_2 then (if x13_2 < (x12_4.length : Int) then (if (rd x10_4 (ji77)) ≤ (rd x12_4 x13_2) then ((spec_l11Run_stand.f k4 0 x15_4 x14_3 (rd x12_4 x13_2) a1_0 a1_1 l1_2 a2 x196004_4 x196005_4 x196006_4).bind fun bt210 => (spec_Zigzag.l2 k4 x10_4 x12_4 x13_2 x14_3 (wrap64 (x15_4 + 1)) a1_0 a1_1 l1_2 a1_0 a1_1 l1_2 a2 bt210.2.2 bt210.1 bt210.2.1)) else (spec_Zigzag.l2 k4 x10_4 x12_4 x13_2 x14_3 (wrap64 (x15_4 + 1)) a1_0 a1_1 l1_2 a1_0 a1_1 l1_2 a2 x196004_4 x196005_4 x196006_4)) else (none)) else (none)) else (none)) else (none)) = some (r1, r2) := by first | (rw [hji77] at H; exact H) | (simp only [hji77] at H ⊢; exact H)
               have hji77w : (IntKind.i64.wrap ((wrap64 (x14_3 * a1_0)) + x15_4)) = ji77 := (i64_w _).trans hji77
               by_cases c78 : 0 ≤ (ji77)
               ·rw [if_pos c78] at H
                have c78b0 : decide (0 ≤ (ji77)) = true := decide_eq_true c78
                clear c78
                by_cases c79 : (ji77) < (x10_4.length : Int)
                ·rw [if_pos c79] at H
                 have c79b0 : decide ((ji77) < (x10_4.length : Int)) = true := decide_eq_true c79
                 (try (have c79b0l := c79b0; rw [hl12_3] at c79b0l))
                 (try (have c79b0l := c79b0; rw [hl12_4] at c79b0l))
                 clear c79
                 by_cases c80 : 0 ≤ x13_2
                 ·rw [if_pos c80] at H
                  have c80b0 : decide (0 ≤ x13_2) = true := decide_eq_true c80
                  clear c80
                  by_cases c81 : x13_2 < (x12_4.length : Int)
                  ·rw [if_pos c81] at H
                   have c81b0 : decide (x13_2 < (x12_4.length : Int)) = true := decide_eq_true c81
                   (try (have c81b0l := c81b0; rw [hl12_3] at c81b0l))
                   (try (have c81b0l := c81b0; rw [hl12_4] at c81b0l))
                   clear c81
                   by_cases c82 : (rd x10_4 (ji77)) ≤ (rd x12_4 x13_2)
                   ·rw [if_pos c82] at H
                    have c82b0 : decide ((rd x10_4 (ji77)) ≤ (rd x12_4 x13_2)) = true := decide_eq_true c82
                    clear c82
                    replace H := Option.bind_eq_some_iff.mp H
                    obtain ⟨⟨t210, t211, t214⟩, A830, H⟩ := H
                    replace H : (spec_Zigzag.l2 k4 x10_4 x12_4 x13_2 x14_3 (wrap64 (x15_4 + 1)) a1_0 a1_1 l1_2 a1_0 a1_1 l1_2 a2 t214 t210 t211) = some (r1, r2) := H
                    have A83 := zA A830
                    clear A830
                    have H' := zA H
                    clear H
                    have hnb84 := NB178_177.out
                    have hnc84 := NB177_178.out
                    have hnb85 := NB178_195.out
                    have hnc85 := NB195_178.out
                    have hcz86_0 : wr.cell? ⟨gb178, 0, none⟩ = some (.int .i64 a1_0) := (blk_cell BK178.out 0).trans rfl
                    have hcz86_1 : wr.cell? ⟨gb178, 1, none⟩ = some (.int .i64 a1_1) := (blk_cell BK178.out 1).trans rfl
                    have hcz86_2 : wr.cell? ⟨gb178, 2, none⟩ = some (.slice A1_2 l1_2.length c1_2) := (blk_cell BK178.out 2).trans rfl
                    have hfz86_0 := blk_frozen BK178.out 0
                    have hfz86_1 := blk_frozen BK178.out 1
                    have hfz86_2 := blk_frozen BK178.out 2
                    try go_wp2
                    have n0_ := zA (zG HO_10.out)
                    have n1_ := zA (zG HO_12.out)
                    have n2_ := zA (zG HO_196004.out)
                    have n3_ := zA (zG HO_196006.out)
                    have n4_ := zA (zN BK177.out)
                    have n5_ := zA (zN BK178.out)
                    have n6_ := zA (zN BK195.out)
                    have n7_ := zA (zQ HB.out)
                    clear HO_10
                    clear HO_12
                    clear HO_196004
                    clear HO_196006
                    clear BK177
                    clear BK178
                    clear BK195
                    clear HB
                    have HO_10 := n0_
                    have HO_12 := n1_
                    have HO_196004 := n2_
                    have HO_196006 := n3_
                    have BK177 := n4_
                    have BK178 := n5_
                    have BK195 := n6_
                    have HB := n7_
                    clear n0_ n1_ n2_ n3_ n4_ n5_ n6_ n7_
                    obtain ⟨Ao88, co88, eo88⟩ := Kd.R_slice HO_10.out
                    (first | subst eo88 | (injection eo88 with f1_ f2_ f3_; have f4_ := f1_.symm; have f5_ := f3_.symm; clear f1_ f2_ f3_; subst f4_; subst f5_))
                    have p207 : 0 ≤ ((ji77) : Int) := of_decide_eq_true (by first | (with_reducible assumption) | assumption)
                    have q207 : (ji77) < (x10_4.length : Int) := of_decide_eq_true (by first | (with_reducible assumption) | assumption)
                    obtain ⟨ad207, e207, hx207_0⟩ := Kd.at_int (zK HO_10.out).2.2 (ji77) p207 q207
                    cases e207
                    replace p207 := eq_true p207
                    replace q207 := eq_true q207
                    have p208 : 0 ≤ (x13_2 : Int) := of_decide_eq_true (by first | (with_reducible assumption) | assumption)
                    have q208 : x13_2 < (x12_4.length : Int) := of_decide_eq_true (by first | (with_reducible assumption) | assumption)
                    obtain ⟨ad208, e208, hx208_0⟩ := Kd.at_int (zK HO_12.out).2.2 x13_2 p208 q208
                    cases e208
                    replace p208 := eq_true p208
                    replace q208 := eq_true q208
                    refine start_ (n := 14) (S := fun w' => w'.cell? ⟨gb178, 0, none⟩ = some (.int .i64 a1_0) ∧ w'.cell? ⟨gb178, 1, none⟩ = some (.int .i64 a1_1) ∧ w'.cell? ⟨gb178, 2, none⟩ = some (.slice A1_2 l1_2.length c1_2) ∧ w'.cell? (ad207.add ((ji77)).toNat) = some (.int .i64 (rd x10_4 (ji77))) ∧ w'.cell? (ad208.add (x13_2).toNat) = some (.int .i64 (rd x12_4 x13_2))) (ds := []) #[false, false, false, false, false, false, false, false, false, false, false, false, false, false] (by kernel_rfl) rfl rfl ⟨(blk_cell BK178.out 0).trans rfl, (blk_cell BK178.out 1).trans rfl, (blk_cell BK178.out 2).trans rfl, hx207_0, hx208_0⟩ (fun hHeld => ?_); refine with_tabW spec_Zigzag.tab18 spec_Zigzag.bits18 (fun HT_ HW_ => ?_)
                    generalize wr.drew = w87 at HO_10 HO_12 HO_196004 HO_196006 BK177 BK178 BK195 HB hx207_0 hx208_0 hHeld ⊢
                    refine pure_ (i := 0) (N := some 78) (v := ?_) (a' := ?_) #[true, false, false, false, false, false, false, false, false, false, false, false, false, false] rfl rfl (any_of HT_.out (by kernel_rfl)) (fun _ _ _ h => h) (Or.inl ⟨by rfl, ?_⟩) ?_ ?_
                    rotate_left
                    ·intro w'
                     go_simp
                     with_reducible rfl
                    rotate_left
                    ·simp only [Act.put, zB, zC, zD, i64_w, i32_w]
                     rfl
                    refine pure_ (i := 1) (N := some 79) (v := ?_) (a' := ?_) #[true, true, false, false, false, false, false, false, false, false, false, false, false, false] rfl rfl (any_of HT_.out (by kernel_rfl)) (fun _ _ _ h => h) (Or.inl ⟨by rfl, ?_⟩) ?_ ?_
                    rotate_left
                    ·intro w'
                     go_simp
                     with_reducible rfl
                    rotate_left
                    ·simp only [Act.put, zB, zC, zD, i64_w, i32_w]
                     rfl
                    refine pure_ (i := 2) (N := some 80) (v := ?_) (a' := ?_) #[true, true, true, false, false, false, false, false, false, false, false, false, false, false] rfl rfl (any_of HT_.out (by kernel_rfl)) (fun _ _ _ h => h) (Or.inl ⟨by rfl, ?_⟩) ?_ ?_
                    rotate_left
                    ·intro w'
                     go_simp
                     with_reducible rfl
                    rotate_left
                    ·simp only [Act.put, zB, zC, zD, i64_w, i32_w]
                     rfl
                    refine pure_ (i := 5) (N := some 83) (v := ?_) (a' := ?_) #[true, true, true, false, false, true, false, false, false, false, false, false, false, false] rfl rfl (any_of HT_.out (by kernel_rfl)) (fun _ _ _ h => h) (Or.inl ⟨by rfl, ?_⟩) ?_ ?_
                    rotate_left
                    ·intro w'
                     go_simp
                     with_reducible rfl
                    rotate_left
                    ·simp only [Act.put, zB, zC, zD, i64_w, i32_w]
                     rfl
                    refine pure_ (i := 9) (N := some 87) (v := ?_) (a' := ?_) #[true, true, true, false, false, true, false, false, false, true, false, false, false, false] rfl rfl (any_of HT_.out (by kernel_rfl)) (fun _ _ _ h => h) (Or.inl ⟨by rfl, ?_⟩) ?_ ?_
                    rotate_left
                    ·intro w'
                     go_simp
                     with_reducible rfl
                    rotate_left
                    ·simp only [Act.put, zB, zC, zD, i64_w, i32_w]
                     rfl
                    refine pure_ (i := 10) (N := some 88) (v := ?_) (a' := ?_) #[true, true, true, false, false, true, false, false, false, true, true, false, false, false] rfl rfl (any_of HT_.out (by kernel_rfl)) (fun _ _ _ h => h) (Or.inl ⟨by rfl, ?_⟩) ?_ ?_
                    rotate_left
                    ·intro w'
                     go_simp
                     with_reducible rfl
                    rotate_left
                    ·simp only [Act.put, zB, zC, zD, i64_w, i32_w]
                     rfl
                    refine pure_ (i := 11) (N := some 89) (v := ?_) (a' := ?_) #[true, true, true, false, false, true, false, false, false, true, true, true, false, false] rfl rfl (any_of HT_.out (by kernel_rfl)) (fun _ _ _ h => h) (Or.inl ⟨by rfl, ?_⟩) ?_ ?_
                    rotate_left
                    ·intro w'
                     go_simp
                     with_reducible rfl
                    rotate_left
                    ·simp only [Act.put, zB, zC, zD, i64_w, i32_w]
                     rfl
                    refine take_ (i := 3) (N := some 81) (v := ?_) (a' := ?_) #[true, true, true, true, false, true, false, false, false, true, true, true, false, false] rfl rfl (take_ofW HT_.out HW_.out (by kernel_rfl)) (fun _ _ _ h => h) (Or.inl ⟨by rfl, ?_⟩) hHeld ?_ ?_
                    rotate_left
                    ·rintro w' ⟨s0, s1, s2, s3, s4⟩
                     go_simp
                     with_reducible rfl
                    rotate_left
                    ·simp only [Act.put, zB, zC, zD, i64_w, i32_w]
                     rfl
                    refine pure_ (i := 4) (N := some 82) (v := ?_) (a' := ?_) #[true, true, true, true, true, true, false, false, false, true, true, true, false, false] rfl rfl (any_of HT_.out (by kernel_rfl)) (fun _ _ _ h => h) (Or.inl ⟨by rfl, ?_⟩) ?_ ?_
                    rotate_left
                    ·intro w'
                     go_simp
                     with_reducible rfl
                    rotate_left
                    ·simp only [Act.put, zB, zC, zD, i64_w, i32_w]
                     rfl
                    refine pure_ (i := 6) (N := some 84) (v := ?_) (a' := ?_) #[true, true, true, true, true, true, true, false, false, true, true, true, false, false] rfl rfl (any_of HT_.out (by kernel_rfl)) (fun _ _ _ h => h) (Or.inl ⟨by rfl, ?_⟩) ?_ ?_
                    rotate_left
                    ·intro w'
                     go_simp
                     with_reducible rfl
                    rotate_left
                    ·simp only [Act.put, zB, zC, zD, i64_w, i32_w]
                     rfl
                    refine pure_ (i := 7) (N := some 85) (v := ?_) (a' := ?_) #[true, true, true, true, true, true, true, true, false, true, true, true, false, false] rfl rfl (any_of HT_.out (by kernel_rfl)) (fun _ _ _ h => h) (Or.inl ⟨by rfl, ?_⟩) ?_ ?_
                    rotate_left
                    ·intro w'
                     go_simp
                     with_reducible rfl
                    rotate_left
                    ·simp only [Act.put, zB, zC, zD, i64_w, i32_w]
                     rfl
                    refine take_ (i := 8) (N := some 86) (v := ?_) (a' := ?_) #[true, true, true, true, true, true, true, true, true, true, true, true, false, false] rfl rfl (take_ofW HT_.out HW_.out (by kernel_rfl)) (fun _ _ _ h => h) (Or.inl ⟨by rfl, ?_⟩) hHeld ?_ ?_
                    rotate_left
                    ·rintro w' ⟨s0, s1, s2, s3, s4⟩
                     go_simp
                     with_reducible rfl
                    rotate_left
                    ·simp only [Act.put, zB, zC, zD, i64_w, i32_w]
                     rfl
                    refine take_ (i := 12) (N := some 90) (v := ?_) (a' := ?_) #[true, true, true, true, true, true, true, true, true, true, true, true, true, false] rfl rfl (take_ofW HT_.out HW_.out (by kernel_rfl)) (fun _ _ _ h => h) (Or.inl ⟨by rfl, ?_⟩) hHeld ?_ ?_
                    rotate_left
                    ·rintro w' ⟨s0, s1, s2, s3, s4⟩
                     go_simp
                     with_reducible rfl
                    rotate_left
                    ·simp only [Act.put, zB, zC, zD, i64_w, i32_w]
                     rfl
                    refine pure_ (i := 13) (N := some 91) (v := ?_) (a' := ?_) #[true, true, true, true, true, true, true, true, true, true, true, true, true, true] rfl rfl (any_of HT_.out (by kernel_rfl)) (fun _ _ _ h => h) (Or.inl ⟨by rfl, ?_⟩) ?_ ?_
                    rotate_left
                    ·intro w'
                     go_simp
                     with_reducible rfl
                    rotate_left
                    ·simp only [Act.put, zB, zC, zD, i64_w, i32_w]
                     rfl
                    refine done_ (done_of HT_.out (by kernel_rfl)) ?_
                    have p209 : 0 ≤ (x13_2 : Int) := of_decide_eq_true (by first | (with_reducible assumption) | assumption)
                    have q209 : x13_2 < (x12_4.length : Int) := of_decide_eq_true (by first | (with_reducible assumption) | assumption)
                    obtain ⟨ad209, e209, hx209_0⟩ := Kd.at_int (zK HO_12.out).2.2 x13_2 p209 q209
                    obtain rfl : ad208 = ad209 := (by injection e209)
                    replace p209 := eq_true p209
                    replace q209 := eq_true q209
                    have hnb89 := NB195_177.out
                    have hnc89 := NB177_195.out
                    have hcz90_0 : w87.cell? ⟨gb195, 0, none⟩ = some (.int .i64 a1_0) := (blk_cell BK195.out 0).trans rfl
                    have hcz90_1 : w87.cell? ⟨gb195, 1, none⟩ = some (.int .i64 a1_1) := (blk_cell BK195.out 1).trans rfl
                    have hcz90_2 : w87.cell? ⟨gb195, 2, none⟩ = some (.slice A1_2 l1_2.length c1_2) := (blk_cell BK195.out 2).trans rfl
                    have hcz90_3 : w87.cell? ⟨gb195, 3, none⟩ = some (.int .i64 a2) := (blk_cell BK195.out 3).trans rfl
                    have hcz90_4 : w87.cell? ⟨gb195, 4, none⟩ = some (u196004) := (blk_cell BK195.out 4).trans rfl
                    have hcz90_5 : w87.cell? ⟨gb195, 5, none⟩ = some (.int .i64 x196005_4) := (blk_cell BK195.out 5).trans rfl
                    have hcz90_6 : w87.cell? ⟨gb195, 6, none⟩ = some (u196006) := (blk_cell BK195.out 6).trans rfl
                    have hfz90_0 := blk_frozen BK195.out 0
                    have hfz90_1 := blk_frozen BK195.out 1
                    have hfz90_2 := blk_frozen BK195.out 2
                    have hfz90_3 := blk_frozen BK195.out 3
                    have hfz90_4 := blk_frozen BK195.out 4
                    have hfz90_5 := blk_frozen BK195.out 5
                    have hfz90_6 := blk_frozen BK195.out 6
                    obtain ⟨Ao91, co91, eo91⟩ := Kd.R_slice HO_196004.out
                    subst eo91
                    obtain ⟨Ao92, co92, eo92⟩ := Kd.R_slice HO_196006.out
                    subst eo92
                    try go_wp2_with (first | ((with_reducible refine gate_callee (f := 59) rfl ?_); refine goesL_ (some 99) rfl rfl Try.func59 (by kernel_rfl) rfl #[.pointer (some ⟨gb195, 0, none⟩), .int .i64 x15_4, .int .i64 x14_3, .int .i64 (rd x12_4 x13_2)] rfl (by (try simp only [List.map_toArray, List.map_cons, List.map_nil]); first | done | rfl | (simp only [List.length_drop, List.length_take]; rfl)) ?_; (with_reducible refine (spec_l11Run_stand.calls k4 0 x15_4 x14_3 (rd x12_4 x13_2) a1_0 a1_1 A1_2 c1_2 l1_2 a2 (fun k_ => some k_ = (.slice Ao91 x196004_4.length co91 : Value).ownBlock ∨ k_ = gb195) (.slice Ao91 x196004_4.length co91) x196004_4 x196005_4 (fun k_ => some k_ = (.slice Ao92 x196006_4.length co92 : Value).ownBlock) (.slice Ao92 x196006_4.length co92) x196006_4 t210 t211 t214 w _ ?side1 ?side2 ?side3 ?side4 ?side5 gb195 ?sideM (.inr rfl) GE195.out A83.out).mono ?_); (case side1 => repeat (first | (with_reducible first | exact HB.out | apply zR | apply zP | apply zQ | refine zS ?_ GE177.out | refine zS ?_ GE178.out | refine zS ?_ GE195.out) | exact HB.out)); (case side2 => exact Kd.C_kept_came (Kd.heap_int .i64) HR1_2.out (bB_ HB) (fun k_ hs_ => Or.elim hs_ (fun e0_ => Or.elim e0_ (fun e_ => (fun e_ => Kd.R_base HO_196004.out k_ e_.symm) e_) (fun e_ => by rw [e_]; exact GE195.out)) (fun e_ => (fun e_ => Kd.R_base HO_196006.out k_ e_.symm) e_))); (case side3 => exact HC1_2.out); (case side4 => exact Kd.R_mono (Kd.R_tight rfl HO_196004.out) (fun _ h_ => .inl h_)); (case side5 => exact Kd.R_tight rfl HO_196006.out); (case sideM => (with_reducible repeat (first | refine zM ?_ _ | refine zN ?_ | refine zO ?_ _)); exact BK195.out); rintro e w93 ⟨v212, rfl, hMg, ho0, hy0, hb, hkp⟩; refine ⟨_, rfl, ?_⟩; have n0_ := zA (Kd.R_mono (ok' := fun k_ => some k_ ≠ (.slice (some ad208) x12_4.length co46 : Value).ownBlock ∧ some k_ ≠ (.slice Ao91 x196004_4.length co91 : Value).ownBlock) (Kd.R_keptB (Kd.R_types ((Kd.R_apart' HO_10.out (Kd.R_typed HO_196006.out) (by decide))) BK195.out (by decide)) hkp (fun k_ hk_ hs_ => Or.elim hs_ (fun e0_ => Or.elim e0_ (fun e_ => (hk_.1.1.2) e_) (fun e_ => hk_.2 e_)) (fun e_ => (hk_.1.2) e_))) (fun k_ hk_ => ⟨hk_.1.1.1.1, hk_.1.1.1.2⟩)); have n1_ := zA (Kd.R_mono (ok' := fun k_ => some k_ ≠ (.slice (some ad207) x10_4.length co88 : Value).ownBlock ∧ some k_ ≠ (.slice Ao91 x196004_4.length co91 : Value).ownBlock) (Kd.R_keptB (Kd.R_types ((Kd.R_apart' HO_12.out (Kd.R_typed HO_196006.out) (by decide))) BK195.out (by decide)) hkp (fun k_ hk_ hs_ => Or.elim hs_ (fun e0_ => Or.elim e0_ (fun e_ => (hk_.1.1.2) e_) (fun e_ => hk_.2 e_)) (fun e_ => (hk_.1.2) e_))) (fun k_ hk_ => ⟨hk_.1.1.1.1, hk_.1.1.1.2⟩)); have n2_ := zA (Kd.R_reok rfl hy0 (fun k_ e_ => HO_196004.out.1 k_ e_)); have n3_ := zA (blk_kept (bA_ BK177) hkp (fun hs_ => Or.elim hs_ (fun e0_ => Or.elim e0_ (fun e_ => (fun e_ => (Kd.R_ne HO_196004.out BK177.out (by decide)) e_) e_) (fun e_ => NB177_195.out e_)) (fun e_ => (fun e_ => (Kd.R_ne HO_196006.out BK177.out (by decide)) e_) e_))); have n4_ := zA (blk_kept (bA_ BK178) hkp (fun hs_ => Or.elim hs_ (fun e0_ => Or.elim e0_ (fun e_ => (fun e_ => (Kd.R_ne HO_196004.out BK178.out (by decide)) e_) e_) (fun e_ => NB178_195.out e_)) (fun e_ => (fun e_ => (Kd.R_ne HO_196006.out BK178.out (by decide)) e_) e_))); have n5_ := zA hMg; have n6_ := zA (Kd.R_mono (ok' := fun k_ => True) ho0 (fun k_ hk_ => trivial)); have n7_ := zA (hb); clear HO_10; clear HO_12; clear HO_196004; clear BK177; clear BK178; clear BK195; clear HB; clear HO_196006; have HO_10 := n0_; have HO_12 := n1_; have HO_196004 := n2_; have BK177 := n3_; have BK178 := n4_; have BK195 := n5_; have HO213 := n6_; have HB := n7_; clear n0_ n1_ n2_ n3_ n4_ n5_ n6_ n7_; (try clear hb); (try clear hkp); (try clear ho0); (try clear hy0); have hcz94_0 : w93.cell? ⟨gb195, 0, none⟩ = some (.int .i64 a1_0) := (blk_cell BK195.out 0).trans rfl; have hcz94_1 : w93.cell? ⟨gb195, 1, none⟩ = some (.int .i64 a1_1) := (blk_cell BK195.out 1).trans rfl; have hcz94_2 : w93.cell? ⟨gb195, 2, none⟩ = some (.slice A1_2 l1_2.length c1_2) := (blk_cell BK195.out 2).trans rfl; have hcz94_3 : w93.cell? ⟨gb195, 3, none⟩ = some (.int .i64 a2) := (blk_cell BK195.out 3).trans rfl; have hcz94_4 : w93.cell? ⟨gb195, 4, none⟩ = some (.slice Ao91 x196004_4.length co91) := (blk_cell BK195.out 4).trans rfl; have hcz94_5 : w93.cell? ⟨gb195, 5, none⟩ = some (.int .i64 t210) := (blk_cell BK195.out 5).trans rfl; have hcz94_6 : w93.cell? ⟨gb195, 6, none⟩ = some (v212) := (blk_cell BK195.out 6).trans rfl; have hfz94_0 := blk_frozen BK195.out 0; have hfz94_1 := blk_frozen BK195.out 1; have hfz94_2 := blk_frozen BK195.out 2; have hfz94_3 := blk_frozen BK195.out 3; have hfz94_4 := blk_frozen BK195.out 4; have hfz94_5 := blk_frozen BK195.out 5; have hfz94_6 := blk_frozen BK195.out 6; obtain ⟨Ao95, co95, eo95⟩ := Kd.R_slice HO213.out; subst eo95))
                    (try simp only [← hl12_4])
                    go_roundg k4
                    case measure => have := HJ4.out; have := HK2.out; have := HK3.out; have := HK4.out; omega
                    case rel => exact ⟨(x10_4), (x12_4), (wrap64 (x15_4 + 1)), (t214), (t210), (t211), (.slice Ao91 x196004_4.length co91), (.slice Ao95 t211.length co95), (by first | rfl | (simp; done) | (simp [*]; done)), H', ⟨by have := HJ4.out; have := HK2.out; have := HK3.out; have := HK4.out; omega⟩, ⟨by (try simp only [hl12_3]); (try simp only [hl12_4]); (with_reducible repeat (first | apply zF | apply zE | apply zG)); exact Kd.R_mono (Kd.R_types HO_10.out BK195.out (by decide)) (fun _ hk => ⟨hk.1.1, hk.1.2⟩)⟩, ⟨by (try simp only [hl12_3]); (try simp only [hl12_4]); (with_reducible repeat (first | apply zF | apply zE | apply zG)); exact Kd.R_mono (Kd.R_types HO_12.out BK195.out (by decide)) (fun _ hk => ⟨hk.1.1, hk.1.2⟩)⟩, ⟨by (try simp only [hl12_3]); (try simp only [hl12_4]); (with_reducible repeat (first | apply zF | apply zE | apply zG)); exact Kd.R_mono (Kd.R_types HO_196004.out BK195.out (by decide)) (fun _ hk => ⟨hk.1.1, hk.1.2⟩)⟩, ⟨by (try simp only [hl12_3]); (try simp only [hl12_4]); (with_reducible repeat (first | apply zF | apply zE | apply zG)); exact Kd.R_mono (Kd.R_types HO213.out BK195.out (by decide)) (fun _ hk => trivial)⟩, ⟨by (try simp only [hl12_3]); (try simp only [hl12_4]); (with_reducible repeat (first | refine zM ?_ _ | refine zN ?_ | refine zO ?_ _)); exact BK177.out⟩, ⟨by (try simp only [hl12_3]); (try simp only [hl12_4]); (with_reducible repeat (first | refine zM ?_ _ | refine zN ?_ | refine zO ?_ _)); exact BK178.out⟩, ⟨by (try simp only [hl12_3]); (try simp only [hl12_4]); (with_reducible repeat (first | refine zM ?_ _ | refine zN ?_ | refine zO ?_ _)); exact BK195.out⟩, ⟨bB_ HB⟩⟩
                   ·rw [if_neg c82] at H
                    have c82b0 : decide ((rd x10_4 (ji77)) ≤ (rd x12_4 x13_2)) = false := decide_eq_false c82
                    clear c82
                    have H' := zA H
                    clear H
                    have hnb96 := NB178_177.out
                    have hnc96 := NB177_178.out
                    have hnb97 := NB178_195.out
                    have hnc97 := NB195_178.out
                    have hcz98_0 : wr.cell? ⟨gb178, 0, none⟩ = some (.int .i64 a1_0) := (blk_cell BK178.out 0).trans rfl
                    have hcz98_1 : wr.cell? ⟨gb178, 1, none⟩ = some (.int .i64 a1_1) := (blk_cell BK178.out 1).trans rfl
                    have hcz98_2 : wr.cell? ⟨gb178, 2, none⟩ = some (.slice A1_2 l1_2.length c1_2) := (blk_cell BK178.out 2).trans rfl
                    have hfz98_0 := blk_frozen BK178.out 0
                    have hfz98_1 := blk_frozen BK178.out 1
                    have hfz98_2 := blk_frozen BK178.out 2
                    try go_wp2
                    have n0_ := zA (zG HO_10.out)
                    have n1_ := zA (zG HO_12.out)
                    have n2_ := zA (zG HO_196004.out)
                    have n3_ := zA (zG HO_196006.out)
                    have n4_ := zA (zN BK177.out)
                    have n5_ := zA (zN BK178.out)
                    have n6_ := zA (zN BK195.out)
                    have n7_ := zA (zQ HB.out)
                    clear HO_10
                    clear HO_12
                    clear HO_196004
                    clear HO_196006
                    clear BK177
                    clear BK178
                    clear BK195
                    clear HB
                    have HO_10 := n0_
                    have HO_12 := n1_
                    have HO_196004 := n2_
                    have HO_196006 := n3_
                    have BK177 := n4_
                    have BK178 := n5_
                    have BK195 := n6_
                    have HB := n7_
                    clear n0_ n1_ n2_ n3_ n4_ n5_ n6_ n7_
                    obtain ⟨Ao100, co100, eo100⟩ := Kd.R_slice HO_10.out
                    (first | subst eo100 | (injection eo100 with f1_ f2_ f3_; have f4_ := f1_.symm; have f5_ := f3_.symm; clear f1_ f2_ f3_; subst f4_; subst f5_))
                    have p207 : 0 ≤ ((ji77) : Int) := of_decide_eq_true (by first | (with_reducible assumption) | assumption)
                    have q207 : (ji77) < (x10_4.length : Int) := of_decide_eq_true (by first | (with_reducible assumption) | assumption)
                    obtain ⟨ad207, e207, hx207_0⟩ := Kd.at_int (zK HO_10.out).2.2 (ji77) p207 q207
                    cases e207
                    replace p207 := eq_true p207
                    replace q207 := eq_true q207
                    have p208 : 0 ≤ (x13_2 : Int) := of_decide_eq_true (by first | (with_reducible assumption) | assumption)
                    have q208 : x13_2 < (x12_4.length : Int) := of_decide_eq_true (by first | (with_reducible assumption) | assumption)
                    obtain ⟨ad208, e208, hx208_0⟩ := Kd.at_int (zK HO_12.out).2.2 x13_2 p208 q208
                    cases e208
                    replace p208 := eq_true p208
                    replace q208 := eq_true q208
                    refine start_ (n := 14) (S := fun w' => w'.cell? ⟨gb178, 0, none⟩ = some (.int .i64 a1_0) ∧ w'.cell? ⟨gb178, 1, none⟩ = some (.int .i64 a1_1) ∧ w'.cell? ⟨gb178, 2, none⟩ = some (.slice A1_2 l1_2.length c1_2) ∧ w'.cell? (ad207.add ((ji77)).toNat) = some (.int .i64 (rd x10_4 (ji77))) ∧ w'.cell? (ad208.add (x13_2).toNat) = some (.int .i64 (rd x12_4 x13_2))) (ds := []) #[false, false, false, false, false, false, false, false, false, false, false, false, false, false] (by kernel_rfl) rfl rfl ⟨(blk_cell BK178.out 0).trans rfl, (blk_cell BK178.out 1).trans rfl, (blk_cell BK178.out 2).trans rfl, hx207_0, hx208_0⟩ (fun hHeld => ?_); refine with_tabW spec_Zigzag.tab18 spec_Zigzag.bits18 (fun HT_ HW_ => ?_)
                    generalize wr.drew = w99 at HO_10 HO_12 HO_196004 HO_196006 BK177 BK178 BK195 HB hx207_0 hx208_0 hHeld ⊢
                    refine pure_ (i := 0) (N := some 78) (v := ?_) (a' := ?_) #[true, false, false, false, false, false, false, false, false, false, false, false, false, false] rfl rfl (any_of HT_.out (by kernel_rfl)) (fun _ _ _ h => h) (Or.inl ⟨by rfl, ?_⟩) ?_ ?_
                    rotate_left
                    ·intro w'
                     go_simp
                     with_reducible rfl
                    rotate_left
                    ·simp only [Act.put, zB, zC, zD, i64_w, i32_w]
                     rfl
                    refine pure_ (i := 1) (N := some 79) (v := ?_) (a' := ?_) #[true, true, false, false, false, false, false, false, false, false, false, false, false, false] rfl rfl (any_of HT_.out (by kernel_rfl)) (fun _ _ _ h => h) (Or.inl ⟨by rfl, ?_⟩) ?_ ?_
                    rotate_left
                    ·intro w'
                     go_simp
                     with_reducible rfl
                    rotate_left
                    ·simp only [Act.put, zB, zC, zD, i64_w, i32_w]
                     rfl
                    refine pure_ (i := 2) (N := some 80) (v := ?_) (a' := ?_) #[true, true, true, false, false, false, false, false, false, false, false, false, false, false] rfl rfl (any_of HT_.out (by kernel_rfl)) (fun _ _ _ h => h) (Or.inl ⟨by rfl, ?_⟩) ?_ ?_
                    rotate_left
                    ·intro w'
                     go_simp
                     with_reducible rfl
                    rotate_left
                    ·simp only [Act.put, zB, zC, zD, i64_w, i32_w]
                     rfl
                    refine pure_ (i := 5) (N := some 83) (v := ?_) (a' := ?_) #[true, true, true, false, false, true, false, false, false, false, false, false, false, false] rfl rfl (any_of HT_.out (by kernel_rfl)) (fun _ _ _ h => h) (Or.inl ⟨by rfl, ?_⟩) ?_ ?_
                    rotate_left
                    ·intro w'
                     go_simp
                     with_reducible rfl
                    rotate_left
                    ·simp only [Act.put, zB, zC, zD, i64_w, i32_w]
                     rfl
                    refine pure_ (i := 9) (N := some 87) (v := ?_) (a' := ?_) #[true, true, true, false, false, true, false, false, false, true, false, false, false, false] rfl rfl (any_of HT_.out (by kernel_rfl)) (fun _ _ _ h => h) (Or.inl ⟨by rfl, ?_⟩) ?_ ?_
                    rotate_left
                    ·intro w'
                     go_simp
                     with_reducible rfl
                    rotate_left
                    ·simp only [Act.put, zB, zC, zD, i64_w, i32_w]
                     rfl
                    refine pure_ (i := 10) (N := some 88) (v := ?_) (a' := ?_) #[true, true, true, false, false, true, false, false, false, true, true, false, false, false] rfl rfl (any_of HT_.out (by kernel_rfl)) (fun _ _ _ h => h) (Or.inl ⟨by rfl, ?_⟩) ?_ ?_
                    rotate_left
                    ·intro w'
                     go_simp
                     with_reducible rfl
                    rotate_left
                    ·simp only [Act.put, zB, zC, zD, i64_w, i32_w]
                     rfl
                    refine pure_ (i := 11) (N := some 89) (v := ?_) (a' := ?_) #[true, true, true, false, false, true, false, false, false, true, true, true, false, false] rfl rfl (any_of HT_.out (by kernel_rfl)) (fun _ _ _ h => h) (Or.inl ⟨by rfl, ?_⟩) ?_ ?_
                    rotate_left
                    ·intro w'
                     go_simp
                     with_reducible rfl
                    rotate_left
                    ·simp only [Act.put, zB, zC, zD, i64_w, i32_w]
                     rfl
                    refine take_ (i := 3) (N := some 81) (v := ?_) (a' := ?_) #[true, true, true, true, false, true, false, false, false, true, true, true, false, false] rfl rfl (take_ofW HT_.out HW_.out (by kernel_rfl)) (fun _ _ _ h => h) (Or.inl ⟨by rfl, ?_⟩) hHeld ?_ ?_
                    rotate_left
                    ·rintro w' ⟨s0, s1, s2, s3, s4⟩
                     go_simp
                     with_reducible rfl
                    rotate_left
                    ·simp only [Act.put, zB, zC, zD, i64_w, i32_w]
                     rfl
                    refine pure_ (i := 4) (N := some 82) (v := ?_) (a' := ?_) #[true, true, true, true, true, true, false, false, false, true, true, true, false, false] rfl rfl (any_of HT_.out (by kernel_rfl)) (fun _ _ _ h => h) (Or.inl ⟨by rfl, ?_⟩) ?_ ?_
                    rotate_left
                    ·intro w'
                     go_simp
                     with_reducible rfl
                    rotate_left
                    ·simp only [Act.put, zB, zC, zD, i64_w, i32_w]
                     rfl
                    refine pure_ (i := 6) (N := some 84) (v := ?_) (a' := ?_) #[true, true, true, true, true, true, true, false, false, true, true, true, false, false] rfl rfl (any_of HT_.out (by kernel_rfl)) (fun _ _ _ h => h) (Or.inl ⟨by rfl, ?_⟩) ?_ ?_
                    rotate_left
                    ·intro w'
                     go_simp
                     with_reducible rfl
                    rotate_left
                    ·simp only [Act.put, zB, zC, zD, i64_w, i32_w]
                     rfl
                    refine pure_ (i := 7) (N := some 85) (v := ?_) (a' := ?_) #[true, true, true, true, true, true, true, true, false, true, true, true, false, false] rfl rfl (any_of HT_.out (by kernel_rfl)) (fun _ _ _ h => h) (Or.inl ⟨by rfl, ?_⟩) ?_ ?_
                    rotate_left
                    ·intro w'
                     go_simp
                     with_reducible rfl
                    rotate_left
                    ·simp only [Act.put, zB, zC, zD, i64_w, i32_w]
                     rfl
                    refine take_ (i := 8) (N := some 86) (v := ?_) (a' := ?_) #[true, true, true, true, true, true, true, true, true, true, true, true, false, false] rfl rfl (take_ofW HT_.out HW_.out (by kernel_rfl)) (fun _ _ _ h => h) (Or.inl ⟨by rfl, ?_⟩) hHeld ?_ ?_
                    rotate_left
                    ·rintro w' ⟨s0, s1, s2, s3, s4⟩
                     go_simp
                     with_reducible rfl
                    rotate_left
                    ·simp only [Act.put, zB, zC, zD, i64_w, i32_w]
                     rfl
                    refine take_ (i := 12) (N := some 90) (v := ?_) (a' := ?_) #[true, true, true, true, true, true, true, true, true, true, true, true, true, false] rfl rfl (take_ofW HT_.out HW_.out (by kernel_rfl)) (fun _ _ _ h => h) (Or.inl ⟨by rfl, ?_⟩) hHeld ?_ ?_
                    rotate_left
                    ·rintro w' ⟨s0, s1, s2, s3, s4⟩
                     go_simp
                     with_reducible rfl
                    rotate_left
                    ·simp only [Act.put, zB, zC, zD, i64_w, i32_w]
                     rfl
                    refine pure_ (i := 13) (N := some 91) (v := ?_) (a' := ?_) #[true, true, true, true, true, true, true, true, true, true, true, true, true, true] rfl rfl (any_of HT_.out (by kernel_rfl)) (fun _ _ _ h => h) (Or.inl ⟨by rfl, ?_⟩) ?_ ?_
                    rotate_left
                    ·intro w'
                     go_simp
                     with_reducible rfl
                    rotate_left
                    ·simp only [Act.put, zB, zC, zD, i64_w, i32_w]
                     rfl
                    refine done_ (done_of HT_.out (by kernel_rfl)) ?_
                    try go_wp2
                    (try simp only [← hl12_4])
                    go_roundg k4
                    case measure => have := HJ4.out; have := HK2.out; have := HK3.out; have := HK4.out; omega
                    case rel => exact ⟨(x10_4), (x12_4), (wrap64 (x15_4 + 1)), (x196004_4), (x196005_4), (x196006_4), (u196004), (u196006), (by first | rfl | (simp; done) | (simp [*]; done)), H', ⟨by have := HJ4.out; have := HK2.out; have := HK3.out; have := HK4.out; omega⟩, ⟨by (try simp only [hl12_3]); (try simp only [hl12_4]); (with_reducible repeat (first | apply zF | apply zE | apply zG)); exact HO_10.out⟩, ⟨by (try simp only [hl12_3]); (try simp only [hl12_4]); (with_reducible repeat (first | apply zF | apply zE | apply zG)); exact HO_12.out⟩, ⟨by (try simp only [hl12_3]); (try simp only [hl12_4]); (with_reducible repeat (first | apply zF | apply zE | apply zG)); exact HO_196004.out⟩, ⟨by (try simp only [hl12_3]); (try simp only [hl12_4]); (with_reducible repeat (first | apply zF | apply zE | apply zG)); exact HO_196006.out⟩, ⟨by (try simp only [hl12_3]); (try simp only [hl12_4]); (with_reducible repeat (first | refine zM ?_ _ | refine zN ?_ | refine zO ?_ _)); exact BK177.out⟩, ⟨by (try simp only [hl12_3]); (try simp only [hl12_4]); (with_reducible repeat (first | refine zM ?_ _ | refine zN ?_ | refine zO ?_ _)); exact BK178.out⟩, ⟨by (try simp only [hl12_3]); (try simp only [hl12_4]); (with_reducible repeat (first | refine zM ?_ _ | refine zN ?_ | refine zO ?_ _)); exact BK195.out⟩, ⟨bB_ HB⟩⟩
                  ·rw [if_neg c81] at H
                   exact absurd H (by simp)
                 ·rw [if_neg c80] at H
                  exact absurd H (by simp)
                ·rw [if_neg c79] at H
                 exact absurd H (by simp)
               ·rw [if_neg c78] at H
                exact absurd H (by simp)
             ·rw [if_neg c51] at H
              have c51b0 : decide (x15_4 < a1_0) = false := decide_eq_false c51
              clear c51
              have H' := zA H
              clear H
              have hnb101 := NB178_177.out
              have hnc101 := NB177_178.out
              have hnb102 := NB178_195.out
              have hnc102 := NB195_178.out
              have hcz103_0 : wr.cell? ⟨gb178, 0, none⟩ = some (.int .i64 a1_0) := (blk_cell BK178.out 0).trans rfl
              have hcz103_1 : wr.cell? ⟨gb178, 1, none⟩ = some (.int .i64 a1_1) := (blk_cell BK178.out 1).trans rfl
              have hcz103_2 : wr.cell? ⟨gb178, 2, none⟩ = some (.slice A1_2 l1_2.length c1_2) := (blk_cell BK178.out 2).trans rfl
              have hfz103_0 := blk_frozen BK178.out 0
              have hfz103_1 := blk_frozen BK178.out 1
              have hfz103_2 := blk_frozen BK178.out 2
              go_wp2
              (try simp only [← hl12_3, ← hl12_4])
              go_roundg k4
              case measure => have := HJ4.out; have := HK2.out; have := HK3.out; have := HK4.out; omega
              case rel => exact ⟨(x10_4), (x12_4), (wrap64 (x14_3 + 1)), (x196004_4), (x196005_4), (x196006_4), (u196004), (u196006), (by first | rfl | (simp; done) | (simp [*]; done)), H', ⟨by have := HJ4.out; have := HK2.out; have := HK3.out; have := HK4.out; omega⟩, ⟨by (try simp only [hl12_3]); (try simp only [hl12_4]); (with_reducible repeat (first | apply zF | apply zE | apply zG)); exact HO_10.out⟩, ⟨by (try simp only [hl12_3]); (try simp only [hl12_4]); (with_reducible repeat (first | apply zF | apply zE | apply zG)); exact HO_12.out⟩, ⟨by (try simp only [hl12_3]); (try simp only [hl12_4]); (with_reducible repeat (first | apply zF | apply zE | apply zG)); exact HO_196004.out⟩, ⟨by (try simp only [hl12_3]); (try simp only [hl12_4]); (with_reducible repeat (first | apply zF | apply zE | apply zG)); exact HO_196006.out⟩, ⟨by (try simp only [hl12_3]); (try simp only [hl12_4]); (with_reducible repeat (first | refine zM ?_ _ | refine zN ?_ | refine zO ?_ _)); exact BK177.out⟩, ⟨by (try simp only [hl12_3]); (try simp only [hl12_4]); (with_reducible repeat (first | refine zM ?_ _ | refine zN ?_ | refine zO ?_ _)); exact BK178.out⟩, ⟨by (try simp only [hl12_3]); (try simp only [hl12_4]); (with_reducible repeat (first | refine zM ?_ _ | refine zN ?_ | refine zO ?_ _)); exact BK195.out⟩, ⟨bB_ HB⟩⟩
          ·rw [if_neg c47] at H
           have c47b0 : decide (x14_3 < a1_1) = false := decide_eq_false c47
           clear c47
           have H' := zA H
           clear H
           have hnb104 := NB178_177.out
           have hnc104 := NB177_178.out
           have hnb105 := NB178_195.out
           have hnc105 := NB195_178.out
           have hcz106_0 : wr.cell? ⟨gb178, 0, none⟩ = some (.int .i64 a1_0) := (blk_cell BK178.out 0).trans rfl
           have hcz106_1 : wr.cell? ⟨gb178, 1, none⟩ = some (.int .i64 a1_1) := (blk_cell BK178.out 1).trans rfl
           have hcz106_2 : wr.cell? ⟨gb178, 2, none⟩ = some (.slice A1_2 l1_2.length c1_2) := (blk_cell BK178.out 2).trans rfl
           have hfz106_0 := blk_frozen BK178.out 0
           have hfz106_1 := blk_frozen BK178.out 1
           have hfz106_2 := blk_frozen BK178.out 2
           go_wp2
           (try simp only [← hl12_3])
           go_roundg k3
           case measure => have := HJ4.out; have := HK2.out; have := HK3.out; omega
           case rel => exact ⟨(x10_3), (x12_3), (wrap64 (x13_2 + 1)), (x196004_3), (x196005_3), (x196006_3), (u196004), (u196006), (by first | rfl | (simp; done) | (simp [*]; done)), H', ⟨by have := HJ4.out; have := HK2.out; have := HK3.out; omega⟩, ⟨by (try simp only [hl12_3]); (with_reducible repeat (first | apply zF | apply zE | apply zG)); exact HO_10.out⟩, ⟨by (try simp only [hl12_3]); (with_reducible repeat (first | apply zF | apply zE | apply zG)); exact HO_12.out⟩, ⟨by (try simp only [hl12_3]); (with_reducible repeat (first | apply zF | apply zE | apply zG)); exact HO_196004.out⟩, ⟨by (try simp only [hl12_3]); (with_reducible repeat (first | apply zF | apply zE | apply zG)); exact HO_196006.out⟩, ⟨by (try simp only [hl12_3]); (with_reducible repeat (first | refine zM ?_ _ | refine zN ?_ | refine zO ?_ _)); exact BK177.out⟩, ⟨by (try simp only [hl12_3]); (with_reducible repeat (first | refine zM ?_ _ | refine zN ?_ | refine zO ?_ _)); exact BK178.out⟩, ⟨by (try simp only [hl12_3]); (with_reducible repeat (first | refine zM ?_ _ | refine zN ?_ | refine zO ?_ _)); exact BK195.out⟩, ⟨bB_ HB⟩⟩
       ·rw [if_neg c45] at H
        have c45b0 : decide (x13_2 < (x12_2.length : Int)) = false := decide_eq_false c45
        clear c45
        have H' := zA H
        clear H
        obtain ⟨Ao107, co107, eo107⟩ := Kd.R_slice HO_12.out
        subst eo107
        go_wp2
        go_loopg [17] k2 (fun kq v17 w' => ∃ (x10_3 : List Int) (x12_3 : List Int) (x17_3 : Int) (x196004_3 : List Int) (x196005_3 : Int) (x196006_3 : List (S61)) (u196004 : Value) (u196006 : Value), v17 = .int .i64 x17_3 ∧ Aside0 (spec_Zigzag.l3 kq x10_3 x12_3 x17_3 a1_0 a1_1 l1_2 a1_0 a1_1 l1_2 a2 x196004_3 x196005_3 x196006_3 = some (r1, r2)) ∧ Aside0 (kq ≤ k2) ∧ Aside0 (Kd.R (Kd.int .i64) 3 w' w.heap.size (fun k_ => some k_ ≠ ((.slice Ao107 x12_2.length co107) : Value).ownBlock ∧ some k_ ≠ (u196004 : Value).ownBlock) v184 x10_3) ∧ Aside0 (Kd.R (Kd.int .i64) 3 w' w.heap.size (fun k_ => some k_ ≠ (v184 : Value).ownBlock ∧ some k_ ≠ (u196004 : Value).ownBlock) (.slice Ao107 x12_2.length co107) x12_3) ∧ Aside0 (Kd.R (Kd.int .i64) 3 w' w.heap.size (fun k_ => some k_ ≠ (v184 : Value).ownBlock ∧ some k_ ≠ ((.slice Ao107 x12_2.length co107) : Value).ownBlock) u196004 x196004_3) ∧ Aside0 (Kd.R k61 61 w' w.heap.size (fun _ => True) u196006 x196006_3) ∧ Aside0 (w'.heap[gb177]? = some (.cells #[.int .i64 a0_0, .int .i64 a0_1, (.slice A0_2 l0_2.length c0_2)] 26 (0, 0))) ∧ Aside0 (w'.heap[gb178]? = some (.cells #[.int .i64 a1_0, .int .i64 a1_1, (.slice A1_2 l1_2.length c1_2)] 26 (0, 0))) ∧ Aside0 (w'.heap[gb195]? = some (.cells #[.int .i64 a1_0, .int .i64 a1_1, (.slice A1_2 l1_2.length c1_2), .int .i64 a2, u196004, .int .i64 x196005_3, u196006] 78 (0, 0))) ∧ Aside0 (Below w.heap.size w w'))
        case atStart => exact ⟨(x10_2), (x12_2), (0), (x196004_2), (x196005_2), (x196006_2), (u196004), (u196006), (by first | rfl | (simp; done) | (simp [*]; done)), H', ⟨Nat.le_refl _⟩, ⟨bC_ HO_10⟩, ⟨bC_ HO_12⟩, ⟨bC_ HO_196004⟩, ⟨bC_ HO_196006⟩, ⟨bA_ BK177⟩, ⟨bA_ BK178⟩, ⟨bA_ BK195⟩, ⟨bB_ HB⟩⟩
        case round =>
         clear H'
         try clear c1
         try clear p1
         try clear q1
         try clear hx1
         try clear p2
         try clear q2
         try clear hx2
         try clear c4
         try clear c5
         try clear p6
         try clear c7
         try clear c8
         try clear c9
         try clear c10
         try clear p19
         try clear q19
         try clear hx19
         try clear p20
         try clear q20
         try clear hx20
         try clear c45
         try clear c45b0
         try clear c47
         try clear c47b0
         try clear c51
         try clear c51b0
         try clear c52
         try clear c52b0
         try clear c52b1
         try clear c54
         try clear c55
         try clear c56
         try clear c57
         try clear c59
         try clear p64
         try clear c78
         try clear c78b0
         try clear c79
         try clear c79b0
         try clear c80
         try clear c80b0
         try clear c81
         try clear c81b0
         try clear c82
         try clear c82b0
         try clear c84
         try clear c85
         try clear c89
         try clear c96
         try clear c97
         try clear c101
         try clear c102
         try clear c104
         try clear c105
         try clear hcz103_0
         try clear hcz103_1
         try clear hcz103_2
         try clear hcz106_0
         try clear hcz106_1
         try clear hcz106_2
         try clear hcz86_0
         try clear hcz86_1
         try clear hcz86_2
         try clear hcz90_0
         try clear hcz90_1
         try clear hcz90_2
         try clear hcz90_3
         try clear hcz90_4
         try clear hcz90_5
         try clear hcz90_6
         try clear hcz94_0
         try clear hcz94_1
         try clear hcz94_2
         try clear hcz94_3
         try clear hcz94_4
         try clear hcz94_5
         try clear hcz94_6
         try clear hcz98_0
         try clear hcz98_1
         try clear hcz98_2
         try clear hfz103_0
         try clear hfz103_1
         try clear hfz103_2
         try clear hfz106_0
         try clear hfz106_1
         try clear hfz106_2
         try clear hfz86_0
         try clear hfz86_1
         try clear hfz86_2
         try clear hfz90_0
         try clear hfz90_1
         try clear hfz90_2
         try clear hfz90_3
         try clear hfz90_4
         try clear hfz90_5
         try clear hfz90_6
         try clear hfz94_0
         try clear hfz94_1
         try clear hfz94_2
         try clear hfz94_3
         try clear hfz94_4
         try clear hfz94_5
         try clear hfz94_6
         try clear hfz98_0
         try clear hfz98_1
         try clear hfz98_2
         try clear hx199_0
         try clear hx200_0
         try clear hx207_0
         try clear hx208_0
         try clear hx209_0
         try clear p199
         try clear p200
         try clear p207
         try clear p208
         try clear p209
         try clear q199
         try clear q200
         try clear q207
         try clear q208
         try clear q209
         obtain ⟨x10_3, x12_3, x17_3, x196004_3, x196005_3, x196006_3, u196004, u196006, rfl, HA, HK3, HO_10, HO_12, HO_196004, HO_196006, BK177, BK178, BK195, HB⟩ := hrel
         have hl12_3 := (zK HO_12.out).1
         rw [hl12_3] at HO_12
         (try simp only [hl12_3])
         (try simp only [hl12_3] at BK177)
         (try simp only [hl12_3] at BK178)
         (try simp only [hl12_3] at BK195)
         (try simp only [hl12_3] at HO_10)
         (try simp only [hl12_3] at HO_196004)
         (try simp only [hl12_3] at HO_196006)
         cases gk with
         | zero => exact absurd HA.out (by simp [spec_Zigzag.l3])
         | succ k3 =>
          have H := HA.out
          clear HA
          simp only [spec_Zigzag.l3] at H
          by_cases c108 : x17_3 < a1_1
          ·rw [if_pos c108] at H
           have c108b0 : decide (x17_3 < a1_1) = true := decide_eq_true c108
           clear c108
           have H' := zA H
           clear H
           have hnb109 := NB178_177.out
           have hnc109 := NB177_178.out
           have hnb110 := NB178_195.out
           have hnc110 := NB195_178.out
           have hcz111_0 : wr.cell? ⟨gb178, 0, none⟩ = some (.int .i64 a1_0) := (blk_cell BK178.out 0).trans rfl
           have hcz111_1 : wr.cell? ⟨gb178, 1, none⟩ = some (.int .i64 a1_1) := (blk_cell BK178.out 1).trans rfl
           have hcz111_2 : wr.cell? ⟨gb178, 2, none⟩ = some (.slice A1_2 l1_2.length c1_2) := (blk_cell BK178.out 2).trans rfl
           have hfz111_0 := blk_frozen BK178.out 0
           have hfz111_1 := blk_frozen BK178.out 1
           have hfz111_2 := blk_frozen BK178.out 2
           go_wp2
           go_loopg [18] k3 (fun kq v18 w' => ∃ (x10_4 : List Int) (x12_4 : List Int) (x18_4 : Int) (x196004_4 : List Int) (x196005_4 : Int) (x196006_4 : List (S61)) (u196004 : Value) (u196006 : Value), v18 = .int .i64 x18_4 ∧ Aside0 (spec_Zigzag.l4 kq x10_4 x12_4 x17_3 x18_4 a1_0 a1_1 l1_2 a1_0 a1_1 l1_2 a2 x196004_4 x196005_4 x196006_4 = some (r1, r2)) ∧ Aside0 (kq ≤ k3) ∧ Aside0 (Kd.R (Kd.int .i64) 3 w' w.heap.size (fun k_ => some k_ ≠ ((.slice Ao107 x12_3.length co107) : Value).ownBlock ∧ some k_ ≠ (u196004 : Value).ownBlock) v184 x10_4) ∧ Aside0 (Kd.R (Kd.int .i64) 3 w' w.heap.size (fun k_ => some k_ ≠ (v184 : Value).ownBlock ∧ some k_ ≠ (u196004 : Value).ownBlock) (.slice Ao107 x12_3.length co107) x12_4) ∧ Aside0 (Kd.R (Kd.int .i64) 3 w' w.heap.size (fun k_ => some k_ ≠ (v184 : Value).ownBlock ∧ some k_ ≠ ((.slice Ao107 x12_3.length co107) : Value).ownBlock) u196004 x196004_4) ∧ Aside0 (Kd.R k61 61 w' w.heap.size (fun _ => True) u196006 x196006_4) ∧ Aside0 (w'.heap[gb177]? = some (.cells #[.int .i64 a0_0, .int .i64 a0_1, (.slice A0_2 l0_2.length c0_2)] 26 (0, 0))) ∧ Aside0 (w'.heap[gb178]? = some (.cells #[.int .i64 a1_0, .int .i64 a1_1, (.slice A1_2 l1_2.length c1_2)] 26 (0, 0))) ∧ Aside0 (w'.heap[gb195]? = some (.cells #[.int .i64 a1_0, .int .i64 a1_1, (.slice A1_2 l1_2.length c1_2), .int .i64 a2, u196004, .int .i64 x196005_4, u196006] 78 (0, 0))) ∧ Aside0 (Below w.heap.size w w'))
           case atStart => exact ⟨(x10_3), (x12_3), (0), (x196004_3), (x196005_3), (x196006_3), (u196004), (u196006), (by first | rfl | (simp; done) | (simp [*]; done)), H', ⟨Nat.le_refl _⟩, ⟨by (try simp only [hl12_3]); (with_reducible repeat (first | apply zF | apply zE | apply zG)); exact HO_10.out⟩, ⟨by (try simp only [hl12_3]); (with_reducible repeat (first | apply zF | apply zE | apply zG)); exact HO_12.out⟩, ⟨by (try simp only [hl12_3]); (with_reducible repeat (first | apply zF | apply zE | apply zG)); exact HO_196004.out⟩, ⟨by (try simp only [hl12_3]); (with_reducible repeat (first | apply zF | apply zE | apply zG)); exact HO_196006.out⟩, ⟨by (try simp only [hl12_3]); (with_reducible repeat (first | refine zM ?_ _ | refine zN ?_ | refine zO ?_ _)); exact BK177.out⟩, ⟨by (try simp only [hl12_3]); (with_reducible repeat (first | refine zM ?_ _ | refine zN ?_ | refine zO ?_ _)); exact BK178.out⟩, ⟨by (try simp only [hl12_3]); (with_reducible repeat (first | refine zM ?_ _ | refine zN ?_ | refine zO ?_ _)); exact BK195.out⟩, ⟨bB_ HB⟩⟩
           case round =>
            clear H'
            try clear c1
            try clear p1
            try clear q1
            try clear hx1
            try clear p2
            try clear q2
            try clear hx2
            try clear c4
            try clear c5
            try clear p6
            try clear c7
            try clear c8
            try clear c9
            try clear c10
            try clear c11
            try clear p19
            try clear q19
            try clear hx19
            try clear p20
            try clear q20
            try clear hx20
            try clear c45
            try clear c45b0
            try clear c47
            try clear c47b0
            try clear c51
            try clear c51b0
            try clear c52
            try clear c52b0
            try clear c52b1
            try clear c54
            try clear c55
            try clear c56
            try clear c57
            try clear c59
            try clear p64
            try clear c78
            try clear c78b0
            try clear c79
            try clear c79b0
            try clear c80
            try clear c80b0
            try clear c81
            try clear c81b0
            try clear c82
            try clear c82b0
            try clear c84
            try clear c85
            try clear c89
            try clear c96
            try clear c97
            try clear c101
            try clear c102
            try clear c104
            try clear c105
            try clear c108
            try clear c108b0
            try clear c109
            try clear c110
            try clear hcz103_0
            try clear hcz103_1
            try clear hcz103_2
            try clear hcz106_0
            try clear hcz106_1
            try clear hcz106_2
            try clear hcz111_0
            try clear hcz111_1
            try clear hcz111_2
            try clear hcz86_0
            try clear hcz86_1
            try clear hcz86_2
            try clear hcz90_0
            try clear hcz90_1
            try clear hcz90_2
            try clear hcz90_3
            try clear hcz90_4
            try clear hcz90_5
            try clear hcz90_6
            try clear hcz94_0
            try clear hcz94_1
            try clear hcz94_2
            try clear hcz94_3
            try clear hcz94_4
            try clear hcz94_5
            try clear hcz94_6
            try clear hcz98_0
            try clear hcz98_1
            try clear hcz98_2
            try clear hfz103_0
            try clear hfz103_1
            try clear hfz103_2
            try clear hfz106_0
            try clear hfz106_1
            try clear hfz106_2
            try clear hfz111_0
            try clear hfz111_1
            try clear hfz111_2
            try clear hfz86_0
            try clear hfz86_1
            try clear hfz86_2
            try clear hfz90_0
            try clear hfz90_1
            try clear hfz90_2
            try clear hfz90_3
            try clear hfz90_4
            try clear hfz90_5
            try clear hfz90_6
            try clear hfz94_0
            try clear hfz94_1
            try clear hfz94_2
            try clear hfz94_3
            try clear hfz94_4
            try clear hfz94_5
            try clear hfz94_6
            try clear hfz98_0
            try clear hfz98_1
            try clear hfz98_2
            try clear hx199_0
            try clear hx200_0
            try clear hx207_0
            try clear hx208_0
            try clear hx209_0
            try clear p1
            try clear p19
            try clear p199
            try clear p2
            try clear p20
            try clear p200
            try clear p207
            try clear p208
            try clear p209
            try clear p6
            try clear p64
            try clear q1
            try clear q19
            try clear q199
            try clear q2
            try clear q20
            try clear q200
            try clear q207
            try clear q208
            try clear q209
            obtain ⟨x10_4, x12_4, x18_4, x196004_4, x196005_4, x196006_4, u196004, u196006, rfl, HA, HK4, HO_10, HO_12, HO_196004, HO_196006, BK177, BK178, BK195, HB⟩ := hrel
            have hl12_4 := (zK HO_12.out).1
            rw [hl12_4] at HO_12
            (try simp only [hl12_4])
            (try simp only [hl12_4] at BK177)
            (try simp only [hl12_4] at BK178)
            (try simp only [hl12_4] at BK195)
            (try simp only [hl12_4] at HO_10)
            (try simp only [hl12_4] at HO_196004)
            (try simp only [hl12_4] at HO_196006)
            cases gk with
            | zero => exact absurd HA.out (by simp [spec_Zigzag.l4])
            | succ k4 =>
             have H := HA.out
             clear HA
             simp only [spec_Zigzag.l4] at H
             by_cases c112 : x18_4 < a1_0
             ·rw [if_pos c112] at H
              have c112b0 : decide (x18_4 < a1_0) = true := decide_eq_true c112
              clear c112
              obtain ⟨ji113, hji113⟩ : ∃ j_ : Int, (wrap64 ((wrap64 (x17_3 * a1_0)) + x18_4)) = j_ := ⟨_, rfl⟩
              replace H : (if 0 ≤ (ji113) then (if (ji113) < (x10_4.length : Int) then (spec_Zigzag.l5 k4 x10_4 x12_4 x17_3 x18_4 (rd x10_4 (ji113)) false 0 a1_0 a1_1 l1_2 a1_0 a1_1 l1_2 a2 x196004_4 x196005_4 x196006_4) else (none)) else (none)) = some (r1, r2) := by first | (rw [hji113] at H; exact H) | (simp only [hji113] at H ⊢; exact H)
              have hji113w : (IntKind.i64.wrap ((wrap64 (x17_3 * a1_0)) + x18_4)) = ji113 := (i64_w _).trans hji113
              by_cases c114 : 0 ≤ (ji113)
              ·rw [if_pos c114] at H
               have c114b0 : decide (0 ≤ (ji113)) = true := decide_eq_true c114
               clear c114
               by_cases c115 : (ji113) < (x10_4.length : Int)
               ·rw [if_pos c115] at H
                have c115b0 : decide ((ji113) < (x10_4.length : Int)) = true := decide_eq_true c115
                (try (have c115b0l := c115b0; rw [hl12_3] at c115b0l))
                (try (have c115b0l := c115b0; rw [hl12_4] at c115b0l))
                clear c115
                have H' := zA H
                clear H
                have hnb116 := NB178_177.out
                have hnc116 := NB177_178.out
                have hnb117 := NB178_195.out
                have hnc117 := NB195_178.out
                have hcz118_0 : wr.cell? ⟨gb178, 0, none⟩ = some (.int .i64 a1_0) := (blk_cell BK178.out 0).trans rfl
                have hcz118_1 : wr.cell? ⟨gb178, 1, none⟩ = some (.int .i64 a1_1) := (blk_cell BK178.out 1).trans rfl
                have hcz118_2 : wr.cell? ⟨gb178, 2, none⟩ = some (.slice A1_2 l1_2.length c1_2) := (blk_cell BK178.out 2).trans rfl
                have hfz118_0 := blk_frozen BK178.out 0
                have hfz118_1 := blk_frozen BK178.out 1
                have hfz118_2 := blk_frozen BK178.out 2
                obtain ⟨Ao119, co119, eo119⟩ := Kd.R_slice HO_10.out
                subst eo119
                have p218 : 0 ≤ ((ji113) : Int) := of_decide_eq_true (by first | (with_reducible assumption) | assumption)
                have q218 : (ji113) < (x10_4.length : Int) := of_decide_eq_true (by first | (with_reducible assumption) | assumption)
                obtain ⟨ad218, e218, hx218_0⟩ := Kd.at_int (zK HO_10.out).2.2 (ji113) p218 q218
                cases e218
                replace p218 := eq_true p218
                replace q218 := eq_true q218
                go_wp2
                go_loopg [20, 21] k4 (fun kq v20 v21 w' => ∃ (x20_5 : Bool) (x21_5 : Int), v20 = .bool x20_5 ∧ v21 = .int .i64 x21_5 ∧ Aside0 (spec_Zigzag.l5 kq x10_4 x12_4 x17_3 x18_4 (rd x10_4 (ji113)) x20_5 x21_5 a1_0 a1_1 l1_2 a1_0 a1_1 l1_2 a2 x196004_4 x196005_4 x196006_4 = some (r1, r2)) ∧ Aside0 (kq ≤ k4) ∧ Aside0 (Kd.R (Kd.int .i64) 3 w' w.heap.size (fun k_ => some k_ ≠ ((.slice Ao107 x12_4.length co107) : Value).ownBlock ∧ some k_ ≠ (u196004 : Value).ownBlock) (.slice (some ad218) x10_4.length co119) x10_4) ∧ Aside0 (Kd.R (Kd.int .i64) 3 w' w.heap.size (fun k_ => some k_ ≠ ((.slice (some ad218) x10_4.length co119) : Value).ownBlock ∧ some k_ ≠ (u196004 : Value).ownBlock) (.slice Ao107 x12_4.length co107) x12_4) ∧ Aside0 (Kd.R (Kd.int .i64) 3 w' w.heap.size (fun k_ => some k_ ≠ ((.slice (some ad218) x10_4.length co119) : Value).ownBlock ∧ some k_ ≠ ((.slice Ao107 x12_4.length co107) : Value).ownBlock) u196004 x196004_4) ∧ Aside0 (Kd.R k61 61 w' w.heap.size (fun _ => True) u196006 x196006_4) ∧ Aside0 (w'.heap[gb177]? = some (.cells #[.int .i64 a0_0, .int .i64 a0_1, (.slice A0_2 l0_2.length c0_2)] 26 (0, 0))) ∧ Aside0 (w'.heap[gb178]? = some (.cells #[.int .i64 a1_0, .int .i64 a1_1, (.slice A1_2 l1_2.length c1_2)] 26 (0, 0))) ∧ Aside0 (w'.heap[gb195]? = some (.cells #[.int .i64 a1_0, .int .i64 a1_1, (.slice A1_2 l1_2.length c1_2), .int .i64 a2, u196004, .int .i64 x196005_4, u196006] 78 (0, 0))) ∧ Aside0 (Below w.heap.size w w'))
                case atStart => exact ⟨(false), (0), (by first | rfl | (simp; done) | (simp [*]; done)), (by first | rfl | (simp; done) | (simp [*]; done)), H', ⟨Nat.le_refl _⟩, ⟨by (try simp only [hl12_3]); (try simp only [hl12_4]); (with_reducible repeat (first | apply zF | apply zE | apply zG)); exact HO_10.out⟩, ⟨by (try simp only [hl12_3]); (try simp only [hl12_4]); (with_reducible repeat (first | apply zF | apply zE | apply zG)); exact HO_12.out⟩, ⟨by (try simp only [hl12_3]); (try simp only [hl12_4]); (with_reducible repeat (first | apply zF | apply zE | apply zG)); exact HO_196004.out⟩, ⟨by (try simp only [hl12_3]); (try simp only [hl12_4]); (with_reducible repeat (first | apply zF | apply zE | apply zG)); exact HO_196006.out⟩, ⟨by (try simp only [hl12_3]); (try simp only [hl12_4]); (with_reducible repeat (first | refine zM ?_ _ | refine zN ?_ | refine zO ?_ _)); exact BK177.out⟩, ⟨by (try simp only [hl12_3]); (try simp only [hl12_4]); (with_reducible repeat (first | refine zM ?_ _ | refine zN ?_ | refine zO ?_ _)); exact BK178.out⟩, ⟨by (try simp only [hl12_3]); (try simp only [hl12_4]); (with_reducible repeat (first | refine zM ?_ _ | refine zN ?_ | refine zO ?_ _)); exact BK195.out⟩, ⟨bB_ HB⟩⟩
                case round =>
                 clear H'
                 try clear c1
                 try clear p1
                 try clear q1
                 try clear hx1
                 try clear p2
                 try clear q2
                 try clear hx2
                 try clear c4
                 try clear c5
                 try clear p6
                 try clear c7
                 try clear c8
                 try clear c9
                 try clear c10
                 try clear c11
                 try clear p19
                 try clear q19
                 try clear hx19
                 try clear p20
                 try clear q20
                 try clear hx20
                 try clear p21
                 try clear q21
                 try clear hx21
                 try clear c45
                 try clear c45b0
                 try clear c47
                 try clear c47b0
                 try clear c51
                 try clear c51b0
                 try clear c52
                 try clear c52b0
                 try clear c52b1
                 try clear c54
                 try clear c55
                 try clear c56
                 try clear c57
                 try clear c59
                 try clear p64
                 try clear c78
                 try clear c78b0
                 try clear c79
                 try clear c79b0
                 try clear c80
                 try clear c80b0
                 try clear c81
                 try clear c81b0
                 try clear c82
                 try clear c82b0
                 try clear c84
                 try clear c85
                 try clear c89
                 try clear c96
                 try clear c97
                 try clear c101
                 try clear c102
                 try clear c104
                 try clear c105
                 try clear c108
                 try clear c108b0
                 try clear c109
                 try clear c110
                 try clear c112
                 try clear c112b0
                 try clear c114
                 try clear c114b0
                 try clear c115
                 try clear c115b0
                 try clear c116
                 try clear c117
                 try clear hcz103_0
                 try clear hcz103_1
                 try clear hcz103_2
                 try clear hcz106_0
                 try clear hcz106_1
                 try clear hcz106_2
                 try clear hcz111_0
                 try clear hcz111_1
                 try clear hcz111_2
                 try clear hcz118_0
                 try clear hcz118_1
                 try clear hcz118_2
                 try clear hcz86_0
                 try clear hcz86_1
                 try clear hcz86_2
                 try clear hcz90_0
                 try clear hcz90_1
                 try clear hcz90_2
                 try clear hcz90_3
                 try clear hcz90_4
                 try clear hcz90_5
                 try clear hcz90_6
                 try clear hcz94_0
                 try clear hcz94_1
                 try clear hcz94_2
                 try clear hcz94_3
                 try clear hcz94_4
                 try clear hcz94_5
                 try clear hcz94_6
                 try clear hcz98_0
                 try clear hcz98_1
                 try clear hcz98_2
                 try clear hfz103_0
                 try clear hfz103_1
                 try clear hfz103_2
                 try clear hfz106_0
                 try clear hfz106_1
                 try clear hfz106_2
                 try clear hfz111_0
                 try clear hfz111_1
                 try clear hfz111_2
                 try clear hfz118_0
                 try clear hfz118_1
                 try clear hfz118_2
                 try clear hfz86_0
                 try clear hfz86_1
                 try clear hfz86_2
                 try clear hfz90_0
                 try clear hfz90_1
                 try clear hfz90_2
                 try clear hfz90_3
                 try clear hfz90_4
                 try clear hfz90_5
                 try clear hfz90_6
                 try clear hfz94_0
                 try clear hfz94_1
                 try clear hfz94_2
                 try clear hfz94_3
                 try clear hfz94_4
                 try clear hfz94_5
                 try clear hfz94_6
                 try clear hfz98_0
                 try clear hfz98_1
                 try clear hfz98_2
                 try clear hx199_0
                 try clear hx200_0
                 try clear hx207_0
                 try clear hx208_0
                 try clear hx209_0
                 try clear hx218_0
                 try clear p1
                 try clear p19
                 try clear p199
                 try clear p2
                 try clear p20
                 try clear p200
                 try clear p207
                 try clear p208
                 try clear p209
                 try clear p218
                 try clear p6
                 try clear p64
                 try clear q1
                 try clear q19
                 try clear q199
                 try clear q2
                 try clear q20
                 try clear q200
                 try clear q207
                 try clear q208
                 try clear q209
                 try clear q218
                 obtain ⟨x20_5, x21_5, rfl, rfl, HA, HK5, HO_10, HO_12, HO_196004, HO_196006, BK177, BK178, BK195, HB⟩ := hrel
                 cases gk with
                 | zero => exact absurd HA.out (by simp [spec_Zigzag.l5])
                 | succ k5 =>
                  have H := HA.out
                  clear HA
                  simp only [spec_Zigzag.l5] at H
                  by_cases c120 : x21_5 < (x12_4.length : Int)
                  ·rw [if_pos c120] at H
                   have c120b0 : decide (x21_5 < (x12_4.length : Int)) = true := decide_eq_true c120
                   (try (have c120b0l := c120b0; rw [hl12_3] at c120b0l))
                   (try (have c120b0l := c120b0; rw [hl12_4] at c120b0l))
                   clear c120
                   by_cases c121 : x20_5 = true
                   ·subst c121
                    have H1 : (spec_Zigzag.l5 k5 x10_4 x12_4 x17_3 x18_4 (rd x10_4 (ji113)) true (wrap64 (x21_5 + 1)) a1_0 a1_1 l1_2 a1_0 a1_1 l1_2 a2 x196004_4 x196005_4 x196006_4) = some (r1, r2) := by rw [if_pos rfl] at H; exact H
                    clear H
                    have H := H1
                    clear H1
                    have H' := zA H
                    clear H
                    go_wp2
                    go_roundg k5
                    case measure => have := HJ4.out; have := HK2.out; have := HK3.out; have := HK4.out; have := HK5.out; omega
                    case rel => exact ⟨(true), (wrap64 (x21_5 + 1)), (by first | rfl | (simp; done) | (simp [*]; done)), (by first | rfl | (simp; done) | (simp [*]; done)), H', ⟨by have := HJ4.out; have := HK2.out; have := HK3.out; have := HK4.out; have := HK5.out; omega⟩, ⟨by (try simp only [hl12_3]); (try simp only [hl12_4]); (with_reducible repeat (first | apply zF | apply zE | apply zG)); exact HO_10.out⟩, ⟨by (try simp only [hl12_3]); (try simp only [hl12_4]); (with_reducible repeat (first | apply zF | apply zE | apply zG)); exact HO_12.out⟩, ⟨by (try simp only [hl12_3]); (try simp only [hl12_4]); (with_reducible repeat (first | apply zF | apply zE | apply zG)); exact HO_196004.out⟩, ⟨by (try simp only [hl12_3]); (try simp only [hl12_4]); (with_reducible repeat (first | apply zF | apply zE | apply zG)); exact HO_196006.out⟩, ⟨by (try simp only [hl12_3]); (try simp only [hl12_4]); (with_reducible repeat (first | refine zM ?_ _ | refine zN ?_ | refine zO ?_ _)); exact BK177.out⟩, ⟨by (try simp only [hl12_3]); (try simp only [hl12_4]); (with_reducible repeat (first | refine zM ?_ _ | refine zN ?_ | refine zO ?_ _)); exact BK178.out⟩, ⟨by (try simp only [hl12_3]); (try simp only [hl12_4]); (with_reducible repeat (first | refine zM ?_ _ | refine zN ?_ | refine zO ?_ _)); exact BK195.out⟩, ⟨bB_ HB⟩⟩
                   ·replace c121 := Bool.eq_false_iff.mpr c121
                    subst c121
                    have H1 : (if 0 ≤ x21_5 then (spec_Zigzag.l5 k5 x10_4 x12_4 x17_3 x18_4 (rd x10_4 (ji113)) ((rd x12_4 x21_5) == (rd x10_4 (ji113))) (wrap64 (x21_5 + 1)) a1_0 a1_1 l1_2 a1_0 a1_1 l1_2 a2 x196004_4 x196005_4 x196006_4) else (none)) = some (r1, r2) := by rw [if_neg (show ¬ (false = true) by decide)] at H; exact H
                    clear H
                    have H := H1
                    clear H1
                    by_cases c122 : 0 ≤ x21_5
                    ·rw [if_pos c122] at H
                     have c122b0 : decide (0 ≤ x21_5) = true := decide_eq_true c122
                     clear c122
                     have H' := zA H
                     clear H
                     have p219 : 0 ≤ (x21_5 : Int) := of_decide_eq_true (by first | (with_reducible assumption) | assumption)
                     have q219 : x21_5 < (x12_4.length : Int) := of_decide_eq_true (by first | (with_reducible assumption) | assumption)
                     obtain ⟨ad219, e219, hx219_0⟩ := Kd.at_int (zK HO_12.out).2.2 x21_5 p219 q219
                     cases e219
                     replace p219 := eq_true p219
                     replace q219 := eq_true q219
                     go_wp2
                     go_roundg k5
                     case measure => have := HJ4.out; have := HK2.out; have := HK3.out; have := HK4.out; have := HK5.out; omega
                     case rel => exact ⟨(((rd x12_4 x21_5) == (rd x10_4 (ji113)))), (wrap64 (x21_5 + 1)), (by first | rfl | (simp; done) | (simp only [← hji113] <;> (first | rfl | simp)) | (simp [*]; done)), (by first | rfl | (simp; done) | (simp [*]; done)), H', ⟨by have := HJ4.out; have := HK2.out; have := HK3.out; have := HK4.out; have := HK5.out; omega⟩, ⟨by (try simp only [hl12_3]); (try simp only [hl12_4]); (with_reducible repeat (first | apply zF | apply zE | apply zG)); exact HO_10.out⟩, ⟨by (try simp only [hl12_3]); (try simp only [hl12_4]); (with_reducible repeat (first | apply zF | apply zE | apply zG)); exact HO_12.out⟩, ⟨by (try simp only [hl12_3]); (try simp only [hl12_4]); (with_reducible repeat (first | apply zF | apply zE | apply zG)); exact HO_196004.out⟩, ⟨by (try simp only [hl12_3]); (try simp only [hl12_4]); (with_reducible repeat (first | apply zF | apply zE | apply zG)); exact HO_196006.out⟩, ⟨by (try simp only [hl12_3]); (try simp only [hl12_4]); (with_reducible repeat (first | refine zM ?_ _ | refine zN ?_ | refine zO ?_ _)); exact BK177.out⟩, ⟨by (try simp only [hl12_3]); (try simp only [hl12_4]); (with_reducible repeat (first | refine zM ?_ _ | refine zN ?_ | refine zO ?_ _)); exact BK178.out⟩, ⟨by (try simp only [hl12_3]); (try simp only [hl12_4]); (with_reducible repeat (first | refine zM ?_ _ | refine zN ?_ | refine zO ?_ _)); exact BK195.out⟩, ⟨bB_ HB⟩⟩
                    ·rw [if_neg c122] at H
                     exact absurd H (by simp)
                  ·rw [if_neg c120] at H
                   have c120b0 : decide (x21_5 < (x12_4.length : Int)) = false := decide_eq_false c120
                   (try (have c120b0l := c120b0; rw [hl12_3] at c120b0l))
                   (try (have c120b0l := c120b0; rw [hl12_4] at c120b0l))
                   clear c120
                   by_cases c123 : x20_5 = true
                   ·subst c123
                    have H1 : (spec_Zigzag.l4 k5 x10_4 x12_4 x17_3 (wrap64 (x18_4 + 1)) a1_0 a1_1 l1_2 a1_0 a1_1 l1_2 a2 x196004_4 x196005_4 x196006_4) = some (r1, r2) := by rw [if_pos rfl] at H; exact H
                    clear H
                    have H := H1
                    clear H1
                    have H' := zA H
                    clear H
                    go_wp2
                    (try simp only [← hl12_4])
                    go_roundg k5
                    case measure => have := HJ4.out; have := HK2.out; have := HK3.out; have := HK4.out; have := HK5.out; omega
                    case rel => exact ⟨(x10_4), (x12_4), (wrap64 (x18_4 + 1)), (x196004_4), (x196005_4), (x196006_4), (u196004), (u196006), (by first | rfl | (simp; done) | (simp [*]; done)), H', ⟨by have := HJ4.out; have := HK2.out; have := HK3.out; have := HK4.out; have := HK5.out; omega⟩, ⟨by (try simp only [hl12_3]); (try simp only [hl12_4]); (with_reducible repeat (first | apply zF | apply zE | apply zG)); exact HO_10.out⟩, ⟨by (try simp only [hl12_3]); (try simp only [hl12_4]); (with_reducible repeat (first | apply zF | apply zE | apply zG)); exact HO_12.out⟩, ⟨by (try simp only [hl12_3]); (try simp only [hl12_4]); (with_reducible repeat (first | apply zF | apply zE | apply zG)); exact HO_196004.out⟩, ⟨by (try simp only [hl12_3]); (try simp only [hl12_4]); (with_reducible repeat (first | apply zF | apply zE | apply zG)); exact HO_196006.out⟩, ⟨by (try simp only [hl12_3]); (try simp only [hl12_4]); (with_reducible repeat (first | refine zM ?_ _ | refine zN ?_ | refine zO ?_ _)); exact BK177.out⟩, ⟨by (try simp only [hl12_3]); (try simp only [hl12_4]); (with_reducible repeat (first | refine zM ?_ _ | refine zN ?_ | refine zO ?_ _)); exact BK178.out⟩, ⟨by (try simp only [hl12_3]); (try simp only [hl12_4]); (with_reducible repeat (first | refine zM ?_ _ | refine zN ?_ | refine zO ?_ _)); exact BK195.out⟩, ⟨bB_ HB⟩⟩
                   ·replace c123 := Bool.eq_false_iff.mpr c123
                    subst c123
                    have H1 : ((spec_l11Run_stand.f k5 0 x18_4 x17_3 (rd x10_4 (ji113)) a1_0 a1_1 l1_2 a2 x196004_4 x196005_4 x196006_4).bind fun bt220 => (spec_Zigzag.l4 k5 x10_4 x12_4 x17_3 (wrap64 (x18_4 + 1)) a1_0 a1_1 l1_2 a1_0 a1_1 l1_2 a2 bt220.2.2 bt220.1 bt220.2.1)) = some (r1, r2) := by rw [if_neg (show ¬ (false = true) by decide)] at H; exact H
                    clear H
                    have H := H1
                    clear H1
                    replace H := Option.bind_eq_some_iff.mp H
                    obtain ⟨⟨t220, t221, t224⟩, A1240, H⟩ := H
                    replace H : (spec_Zigzag.l4 k5 x10_4 x12_4 x17_3 (wrap64 (x18_4 + 1)) a1_0 a1_1 l1_2 a1_0 a1_1 l1_2 a2 t224 t220 t221) = some (r1, r2) := H
                    have A124 := zA A1240
                    clear A1240
                    have H' := zA H
                    clear H
                    have hnb125 := NB195_177.out
                    have hnc125 := NB177_195.out
                    have hnb126 := NB195_178.out
                    have hnc126 := NB178_195.out
                    have hcz127_0 : wr.cell? ⟨gb195, 0, none⟩ = some (.int .i64 a1_0) := (blk_cell BK195.out 0).trans rfl
                    have hcz127_1 : wr.cell? ⟨gb195, 1, none⟩ = some (.int .i64 a1_1) := (blk_cell BK195.out 1).trans rfl
                    have hcz127_2 : wr.cell? ⟨gb195, 2, none⟩ = some (.slice A1_2 l1_2.length c1_2) := (blk_cell BK195.out 2).trans rfl
                    have hcz127_3 : wr.cell? ⟨gb195, 3, none⟩ = some (.int .i64 a2) := (blk_cell BK195.out 3).trans rfl
                    have hcz127_4 : wr.cell? ⟨gb195, 4, none⟩ = some (u196004) := (blk_cell BK195.out 4).trans rfl
                    have hcz127_5 : wr.cell? ⟨gb195, 5, none⟩ = some (.int .i64 x196005_4) := (blk_cell BK195.out 5).trans rfl
                    have hcz127_6 : wr.cell? ⟨gb195, 6, none⟩ = some (u196006) := (blk_cell BK195.out 6).trans rfl
                    have hfz127_0 := blk_frozen BK195.out 0
                    have hfz127_1 := blk_frozen BK195.out 1
                    have hfz127_2 := blk_frozen BK195.out 2
                    have hfz127_3 := blk_frozen BK195.out 3
                    have hfz127_4 := blk_frozen BK195.out 4
                    have hfz127_5 := blk_frozen BK195.out 5
                    have hfz127_6 := blk_frozen BK195.out 6
                    obtain ⟨Ao128, co128, eo128⟩ := Kd.R_slice HO_196004.out
                    subst eo128
                    obtain ⟨Ao129, co129, eo129⟩ := Kd.R_slice HO_196006.out
                    subst eo129
                    go_wp2_with (first | ((with_reducible refine gate_callee (f := 59) rfl ?_); refine goesL_ (some 142) rfl rfl Try.func59 (by kernel_rfl) rfl #[.pointer (some ⟨gb195, 0, none⟩), .int .i64 x18_4, .int .i64 x17_3, .int .i64 (rd x10_4 (ji113))] rfl (by (try simp only [List.map_toArray, List.map_cons, List.map_nil]); first | done | (simp only [hji113]; rfl) | rfl | (simp only [List.length_drop, List.length_take]; rfl)) ?_; (with_reducible refine (spec_l11Run_stand.calls k5 0 x18_4 x17_3 (rd x10_4 (ji113)) a1_0 a1_1 A1_2 c1_2 l1_2 a2 (fun k_ => some k_ = (.slice Ao128 x196004_4.length co128 : Value).ownBlock ∨ k_ = gb195) (.slice Ao128 x196004_4.length co128) x196004_4 x196005_4 (fun k_ => some k_ = (.slice Ao129 x196006_4.length co129 : Value).ownBlock) (.slice Ao129 x196006_4.length co129) x196006_4 t220 t221 t224 w _ ?side1 ?side2 ?side3 ?side4 ?side5 gb195 ?sideM (.inr rfl) GE195.out A124.out).mono ?_); (case side1 => repeat (first | (with_reducible first | exact HB.out | apply zR | apply zP | apply zQ | refine zS ?_ GE177.out | refine zS ?_ GE178.out | refine zS ?_ GE195.out) | exact HB.out)); (case side2 => exact Kd.C_kept_came (Kd.heap_int .i64) HR1_2.out (bB_ HB) (fun k_ hs_ => Or.elim hs_ (fun e0_ => Or.elim e0_ (fun e_ => (fun e_ => Kd.R_base HO_196004.out k_ e_.symm) e_) (fun e_ => by rw [e_]; exact GE195.out)) (fun e_ => (fun e_ => Kd.R_base HO_196006.out k_ e_.symm) e_))); (case side3 => exact HC1_2.out); (case side4 => exact Kd.R_mono (Kd.R_tight rfl HO_196004.out) (fun _ h_ => .inl h_)); (case side5 => exact Kd.R_tight rfl HO_196006.out); (case sideM => (with_reducible repeat (first | refine zM ?_ _ | refine zN ?_ | refine zO ?_ _)); exact BK195.out); rintro e w130 ⟨v222, rfl, hMg, ho0, hy0, hb, hkp⟩; refine ⟨_, rfl, ?_⟩; have n0_ := zA (Kd.R_mono (ok' := fun k_ => some k_ ≠ (.slice Ao107 x12_4.length co107 : Value).ownBlock ∧ some k_ ≠ (.slice Ao128 x196004_4.length co128 : Value).ownBlock) (Kd.R_keptB (Kd.R_types ((Kd.R_apart' HO_10.out (Kd.R_typed HO_196006.out) (by decide))) BK195.out (by decide)) hkp (fun k_ hk_ hs_ => Or.elim hs_ (fun e0_ => Or.elim e0_ (fun e_ => (hk_.1.1.2) e_) (fun e_ => hk_.2 e_)) (fun e_ => (hk_.1.2) e_))) (fun k_ hk_ => ⟨hk_.1.1.1.1, hk_.1.1.1.2⟩)); have n1_ := zA (Kd.R_mono (ok' := fun k_ => some k_ ≠ (.slice (some ad218) x10_4.length co119 : Value).ownBlock ∧ some k_ ≠ (.slice Ao128 x196004_4.length co128 : Value).ownBlock) (Kd.R_keptB (Kd.R_types ((Kd.R_apart' HO_12.out (Kd.R_typed HO_196006.out) (by decide))) BK195.out (by decide)) hkp (fun k_ hk_ hs_ => Or.elim hs_ (fun e0_ => Or.elim e0_ (fun e_ => (hk_.1.1.2) e_) (fun e_ => hk_.2 e_)) (fun e_ => (hk_.1.2) e_))) (fun k_ hk_ => ⟨hk_.1.1.1.1, hk_.1.1.1.2⟩)); have n2_ := zA (Kd.R_reok rfl hy0 (fun k_ e_ => HO_196004.out.1 k_ e_)); have n3_ := zA (blk_kept (bA_ BK177) hkp (fun hs_ => Or.elim hs_ (fun e0_ => Or.elim e0_ (fun e_ => (fun e_ => (Kd.R_ne HO_196004.out BK177.out (by decide)) e_) e_) (fun e_ => NB177_195.out e_)) (fun e_ => (fun e_ => (Kd.R_ne HO_196006.out BK177.out (by decide)) e_) e_))); have n4_ := zA (blk_kept (bA_ BK178) hkp (fun hs_ => Or.elim hs_ (fun e0_ => Or.elim e0_ (fun e_ => (fun e_ => (Kd.R_ne HO_196004.out BK178.out (by decide)) e_) e_) (fun e_ => NB178_195.out e_)) (fun e_ => (fun e_ => (Kd.R_ne HO_196006.out BK178.out (by decide)) e_) e_))); have n5_ := zA hMg; have n6_ := zA (Kd.R_mono (ok' := fun k_ => True) ho0 (fun k_ hk_ => trivial)); have n7_ := zA (hb); clear HO_10; clear HO_12; clear HO_196004; clear BK177; clear BK178; clear BK195; clear HB; clear HO_196006; have HO_10 := n0_; have HO_12 := n1_; have HO_196004 := n2_; have BK177 := n3_; have BK178 := n4_; have BK195 := n5_; have HO223 := n6_; have HB := n7_; clear n0_ n1_ n2_ n3_ n4_ n5_ n6_ n7_; (try clear hb); (try clear hkp); (try clear ho0); (try clear hy0); have hcz131_0 : w130.cell? ⟨gb195, 0, none⟩ = some (.int .i64 a1_0) := (blk_cell BK195.out 0).trans rfl; have hcz131_1 : w130.cell? ⟨gb195, 1, none⟩ = some (.int .i64 a1_1) := (blk_cell BK195.out 1).trans rfl; have hcz131_2 : w130.cell? ⟨gb195, 2, none⟩ = some (.slice A1_2 l1_2.length c1_2) := (blk_cell BK195.out 2).trans rfl; have hcz131_3 : w130.cell? ⟨gb195, 3, none⟩ = some (.int .i64 a2) := (blk_cell BK195.out 3).trans rfl; have hcz131_4 : w130.cell? ⟨gb195, 4, none⟩ = some (.slice Ao128 x196004_4.length co128) := (blk_cell BK195.out 4).trans rfl; have hcz131_5 : w130.cell? ⟨gb195, 5, none⟩ = some (.int .i64 t220) := (blk_cell BK195.out 5).trans rfl; have hcz131_6 : w130.cell? ⟨gb195, 6, none⟩ = some (v222) := (blk_cell BK195.out 6).trans rfl; have hfz131_0 := blk_frozen BK195.out 0; have hfz131_1 := blk_frozen BK195.out 1; have hfz131_2 := blk_frozen BK195.out 2; have hfz131_3 := blk_frozen BK195.out 3; have hfz131_4 := blk_frozen BK195.out 4; have hfz131_5 := blk_frozen BK195.out 5; have hfz131_6 := blk_frozen BK195.out 6; obtain ⟨Ao132, co132, eo132⟩ := Kd.R_slice HO223.out; subst eo132))
                    (try simp only [← hl12_4])
                    go_roundg k5
                    case measure => have := HJ4.out; have := HK2.out; have := HK3.out; have := HK4.out; have := HK5.out; omega
                    case rel => exact ⟨(x10_4), (x12_4), (wrap64 (x18_4 + 1)), (t224), (t220), (t221), (.slice Ao128 x196004_4.length co128), (.slice Ao132 t221.length co132), (by first | rfl | (simp; done) | (simp [*]; done)), H', ⟨by have := HJ4.out; have := HK2.out; have := HK3.out; have := HK4.out; have := HK5.out; omega⟩, ⟨by (try simp only [hl12_3]); (try simp only [hl12_4]); (with_reducible repeat (first | apply zF | apply zE | apply zG)); exact Kd.R_mono (Kd.R_types HO_10.out BK195.out (by decide)) (fun _ hk => ⟨hk.1.1, hk.1.2⟩)⟩, ⟨by (try simp only [hl12_3]); (try simp only [hl12_4]); (with_reducible repeat (first | apply zF | apply zE | apply zG)); exact Kd.R_mono (Kd.R_types HO_12.out BK195.out (by decide)) (fun _ hk => ⟨hk.1.1, hk.1.2⟩)⟩, ⟨by (try simp only [hl12_3]); (try simp only [hl12_4]); (with_reducible repeat (first | apply zF | apply zE | apply zG)); exact Kd.R_mono (Kd.R_types HO_196004.out BK195.out (by decide)) (fun _ hk => ⟨hk.1.1, hk.1.2⟩)⟩, ⟨by (try simp only [hl12_3]); (try simp only [hl12_4]); (with_reducible repeat (first | apply zF | apply zE | apply zG)); exact Kd.R_mono (Kd.R_types HO223.out BK195.out (by decide)) (fun _ hk => trivial)⟩, ⟨by (try simp only [hl12_3]); (try simp only [hl12_4]); (with_reducible repeat (first | refine zM ?_ _ | refine zN ?_ | refine zO ?_ _)); exact BK177.out⟩, ⟨by (try simp only [hl12_3]); (try simp only [hl12_4]); (with_reducible repeat (first | refine zM ?_ _ | refine zN ?_ | refine zO ?_ _)); exact BK178.out⟩, ⟨by (try simp only [hl12_3]); (try simp only [hl12_4]); (with_reducible repeat (first | refine zM ?_ _ | refine zN ?_ | refine zO ?_ _)); exact BK195.out⟩, ⟨bB_ HB⟩⟩
               ·rw [if_neg c115] at H
                exact absurd H (by simp)
              ·rw [if_neg c114] at H
               exact absurd H (by simp)
             ·rw [if_neg c112] at H
              have c112b0 : decide (x18_4 < a1_0) = false := decide_eq_false c112
              clear c112
              have H' := zA H
              clear H
              have hnb133 := NB178_177.out
              have hnc133 := NB177_178.out
              have hnb134 := NB178_195.out
              have hnc134 := NB195_178.out
              have hcz135_0 : wr.cell? ⟨gb178, 0, none⟩ = some (.int .i64 a1_0) := (blk_cell BK178.out 0).trans rfl
              have hcz135_1 : wr.cell? ⟨gb178, 1, none⟩ = some (.int .i64 a1_1) := (blk_cell BK178.out 1).trans rfl
              have hcz135_2 : wr.cell? ⟨gb178, 2, none⟩ = some (.slice A1_2 l1_2.length c1_2) := (blk_cell BK178.out 2).trans rfl
              have hfz135_0 := blk_frozen BK178.out 0
              have hfz135_1 := blk_frozen BK178.out 1
              have hfz135_2 := blk_frozen BK178.out 2
              go_wp2
              (try simp only [← hl12_3, ← hl12_4])
              go_roundg k4
              case measure => have := HJ4.out; have := HK2.out; have := HK3.out; have := HK4.out; omega
              case rel => exact ⟨(x10_4), (x12_4), (wrap64 (x17_3 + 1)), (x196004_4), (x196005_4), (x196006_4), (u196004), (u196006), (by first | rfl | (simp; done) | (simp [*]; done)), H', ⟨by have := HJ4.out; have := HK2.out; have := HK3.out; have := HK4.out; omega⟩, ⟨by (try simp only [hl12_3]); (try simp only [hl12_4]); (with_reducible repeat (first | apply zF | apply zE | apply zG)); exact HO_10.out⟩, ⟨by (try simp only [hl12_3]); (try simp only [hl12_4]); (with_reducible repeat (first | apply zF | apply zE | apply zG)); exact HO_12.out⟩, ⟨by (try simp only [hl12_3]); (try simp only [hl12_4]); (with_reducible repeat (first | apply zF | apply zE | apply zG)); exact HO_196004.out⟩, ⟨by (try simp only [hl12_3]); (try simp only [hl12_4]); (with_reducible repeat (first | apply zF | apply zE | apply zG)); exact HO_196006.out⟩, ⟨by (try simp only [hl12_3]); (try simp only [hl12_4]); (with_reducible repeat (first | refine zM ?_ _ | refine zN ?_ | refine zO ?_ _)); exact BK177.out⟩, ⟨by (try simp only [hl12_3]); (try simp only [hl12_4]); (with_reducible repeat (first | refine zM ?_ _ | refine zN ?_ | refine zO ?_ _)); exact BK178.out⟩, ⟨by (try simp only [hl12_3]); (try simp only [hl12_4]); (with_reducible repeat (first | refine zM ?_ _ | refine zN ?_ | refine zO ?_ _)); exact BK195.out⟩, ⟨bB_ HB⟩⟩
          ·rw [if_neg c108] at H
           have c108b0 : decide (x17_3 < a1_1) = false := decide_eq_false c108
           clear c108
           by_cases c136 : (x196006_3.length : Int) > 2000
           ·rw [if_pos c136] at H
            have c136b0 : decide (2000 < (x196006_3.length : Int)) = true := decide_eq_true c136
            (try (have c136b0l := c136b0; rw [hl12_3] at c136b0l))
            have c136b1 : decide (2000 < x196006_3.length) = true := decide_eq_true (by omega)
            (try (have c136b1l := c136b1; rw [hl12_3] at c136b1l))
            clear c136
            obtain ⟨y215, hy215⟩ : ∃ y_ : List (S61), y_ = (([] : List (S61))) := ⟨_, rfl⟩
            replace H : (some (y215, 18)) = some (r1, r2) := by first | (rw [hy215]; with_reducible exact H) | (have H2_ := (Option.bind_some _ _).symm.trans H; rw [hy215]; with_reducible exact H2_) | (have H2_ := (Option.bind_some _ _).symm.trans H; with_reducible exact H2_) | with_reducible exact H | (rw [hy215]; exact H) | exact H
            have Ny215 := zA hy215
            clear hy215
            simp only [Option.some.injEq, Prod.mk.injEq] at H
            obtain ⟨rfl, rfl⟩ := H
            have hnb137 := NB178_177.out
            have hnc137 := NB177_178.out
            have hnb138 := NB178_195.out
            have hnc138 := NB195_178.out
            have hcz139_0 : wr.cell? ⟨gb178, 0, none⟩ = some (.int .i64 a1_0) := (blk_cell BK178.out 0).trans rfl
            have hcz139_1 : wr.cell? ⟨gb178, 1, none⟩ = some (.int .i64 a1_1) := (blk_cell BK178.out 1).trans rfl
            have hcz139_2 : wr.cell? ⟨gb178, 2, none⟩ = some (.slice A1_2 l1_2.length c1_2) := (blk_cell BK178.out 2).trans rfl
            have hfz139_0 := blk_frozen BK178.out 0
            have hfz139_1 := blk_frozen BK178.out 1
            have hfz139_2 := blk_frozen BK178.out 2
            have hnb140 := NB195_177.out
            have hnc140 := NB177_195.out
            have hcz141_0 : wr.cell? ⟨gb195, 0, none⟩ = some (.int .i64 a1_0) := (blk_cell BK195.out 0).trans rfl
            have hcz141_1 : wr.cell? ⟨gb195, 1, none⟩ = some (.int .i64 a1_1) := (blk_cell BK195.out 1).trans rfl
            have hcz141_2 : wr.cell? ⟨gb195, 2, none⟩ = some (.slice A1_2 l1_2.length c1_2) := (blk_cell BK195.out 2).trans rfl
            have hcz141_3 : wr.cell? ⟨gb195, 3, none⟩ = some (.int .i64 a2) := (blk_cell BK195.out 3).trans rfl
            have hcz141_4 : wr.cell? ⟨gb195, 4, none⟩ = some (u196004) := (blk_cell BK195.out 4).trans rfl
            have hcz141_5 : wr.cell? ⟨gb195, 5, none⟩ = some (.int .i64 x196005_3) := (blk_cell BK195.out 5).trans rfl
            have hcz141_6 : wr.cell? ⟨gb195, 6, none⟩ = some (u196006) := (blk_cell BK195.out 6).trans rfl
            have hfz141_0 := blk_frozen BK195.out 0
            have hfz141_1 := blk_frozen BK195.out 1
            have hfz141_2 := blk_frozen BK195.out 2
            have hfz141_3 := blk_frozen BK195.out 3
            have hfz141_4 := blk_frozen BK195.out 4
            have hfz141_5 := blk_frozen BK195.out 5
            have hfz141_6 := blk_frozen BK195.out 6
            obtain ⟨Ao142, co142, eo142⟩ := Kd.R_slice HO_196006.out
            subst eo142
            go_wp2_with (first | ((with_reducible refine gate_dst (N := 149) rfl ?_); refine Kd.R_lit k61 _ 61 ?hg (N := 149) ?hd (xs := ([] : List (S61))) (inner := []) (ok := fun _ => True) (okp := fun _ => True) ?hr ?hp (fun _ hk => hk) trivial (Below.refl _ _) (Nat.le_refl _) (by simp) ?_; (case hd => rfl); (case hg => rfl); (case hr => first | (go_simp; done) | (go_simp; rfl)); (case hp => exact (Reps.none _ _)); intro v216 w143 ho144 hb hg_ hnew_; clear hg_ hnew_; (first | rw [← Ny215.out] at ho144 | (simp only [Int.reduceToNat] at ho144; rw [← Ny215.out] at ho144)); have n0_ := zA (zL (bC_ HO_10) hb); have n1_ := zA (zL (bC_ HO_12) hb); have n2_ := zA (zL (bC_ HO_196004) hb); have n3_ := zA (Kd.R_elder' (bC_ HO_196006) (Kd.R_base ho144) hb); have n4_ := zA (Kd.R_lower (Kd.R_new' ho144 (Kd.R_lt (bC_ HO_196006))) (zT (bB_ HB))); have n5_ := zA (zU (g := gb177) (o := .cells #[.int .i64 a0_0, .int .i64 a0_1, .slice A0_2 l0_2.length c0_2] 26 (0, 0)) (bA_ BK177) hb); have n6_ := zA (zU (g := gb178) (o := .cells #[.int .i64 a1_0, .int .i64 a1_1, .slice A1_2 l1_2.length c1_2] 26 (0, 0)) (bA_ BK178) hb); have n7_ := zA (zU (g := gb195) (o := .cells #[.int .i64 a1_0, .int .i64 a1_1, .slice A1_2 l1_2.length c1_2, .int .i64 a2, u196004, .int .i64 x196005_3, .slice Ao142 x196006_3.length co142] 78 (0, 0)) (bA_ BK195) hb); have n8_ := zA (below_step (bB_ HB) hb); clear HO_10; clear HO_12; clear HO_196004; clear HO_196006; clear BK177; clear BK178; clear BK195; clear HB; have HO_10 := n0_; have HO_12 := n1_; have HO_196004 := n2_; have HO_196006 := n3_; have HO217 := n4_; have BK177 := n5_; have BK178 := n6_; have BK195 := n7_; have HB := n8_; clear n0_ n1_ n2_ n3_ n4_ n5_ n6_ n7_ n8_; clear hb ho144))
            go_ret2
            exact ⟨_, by first | rfl | (simp [errW_none, errW_some] <;> rfl) | (simp [*, errW_none, errW_some] <;> rfl), by (with_reducible repeat (first | apply zF | apply zE | apply zG)); exact Kd.R_mono HO217.out (fun _ hk => trivial), bB_ HB⟩
           ·rw [if_neg c136] at H
            have c136b0 : decide (2000 < (x196006_3.length : Int)) = false := decide_eq_false c136
            (try (have c136b0l := c136b0; rw [hl12_3] at c136b0l))
            have c136b1 : decide (2000 < x196006_3.length) = false := decide_eq_false (by omega)
            (try (have c136b1l := c136b1; rw [hl12_3] at c136b1l))
            clear c136
            simp only [Option.some.injEq, Prod.mk.injEq] at H
            obtain ⟨rfl, rfl⟩ := H
            have hnb145 := NB178_177.out
            have hnc145 := NB177_178.out
            have hnb146 := NB178_195.out
            have hnc146 := NB195_178.out
            have hcz147_0 : wr.cell? ⟨gb178, 0, none⟩ = some (.int .i64 a1_0) := (blk_cell BK178.out 0).trans rfl
            have hcz147_1 : wr.cell? ⟨gb178, 1, none⟩ = some (.int .i64 a1_1) := (blk_cell BK178.out 1).trans rfl
            have hcz147_2 : wr.cell? ⟨gb178, 2, none⟩ = some (.slice A1_2 l1_2.length c1_2) := (blk_cell BK178.out 2).trans rfl
            have hfz147_0 := blk_frozen BK178.out 0
            have hfz147_1 := blk_frozen BK178.out 1
            have hfz147_2 := blk_frozen BK178.out 2
            have hnb148 := NB195_177.out
            have hnc148 := NB177_195.out
            have hcz149_0 : wr.cell? ⟨gb195, 0, none⟩ = some (.int .i64 a1_0) := (blk_cell BK195.out 0).trans rfl
            have hcz149_1 : wr.cell? ⟨gb195, 1, none⟩ = some (.int .i64 a1_1) := (blk_cell BK195.out 1).trans rfl
            have hcz149_2 : wr.cell? ⟨gb195, 2, none⟩ = some (.slice A1_2 l1_2.length c1_2) := (blk_cell BK195.out 2).trans rfl
            have hcz149_3 : wr.cell? ⟨gb195, 3, none⟩ = some (.int .i64 a2) := (blk_cell BK195.out 3).trans rfl
            have hcz149_4 : wr.cell? ⟨gb195, 4, none⟩ = some (u196004) := (blk_cell BK195.out 4).trans rfl
            have hcz149_5 : wr.cell? ⟨gb195, 5, none⟩ = some (.int .i64 x196005_3) := (blk_cell BK195.out 5).trans rfl
            have hcz149_6 : wr.cell? ⟨gb195, 6, none⟩ = some (u196006) := (blk_cell BK195.out 6).trans rfl
            have hfz149_0 := blk_frozen BK195.out 0
            have hfz149_1 := blk_frozen BK195.out 1
            have hfz149_2 := blk_frozen BK195.out 2
            have hfz149_3 := blk_frozen BK195.out 3
            have hfz149_4 := blk_frozen BK195.out 4
            have hfz149_5 := blk_frozen BK195.out 5
            have hfz149_6 := blk_frozen BK195.out 6
            obtain ⟨Ao150, co150, eo150⟩ := Kd.R_slice HO_196006.out
            subst eo150
            go_wp2
            go_ret2
            exact ⟨_, by first | rfl | (simp [errW_none, errW_some] <;> rfl) | (simp [*, errW_none, errW_some] <;> rfl), bC_ HO_196006, bB_ HB⟩
    ·rw [if_neg c27] at H
     exact absurd H (by simp)

end Go.Proofs.Ytgmbbcnfcddamaa.PFnExactZigzag
