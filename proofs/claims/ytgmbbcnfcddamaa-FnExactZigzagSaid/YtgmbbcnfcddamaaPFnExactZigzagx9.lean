/- Written for this claim by a program of this session: the functions that the law reaches, each with its contract. -/
import Derived.Test.YtgmbbcnfcddamaaPFnExactZigzagx0
import Derived.Test.YtgmbbcnfcddamaaSeenInt
import Derived.Test.YtgmbbcnfcddamaaPFnExactZigzagx6
import Derived.Test.YtgmbbcnfcddamaaPFnExactZigzagx8
namespace Go.Proofs.Ytgmbbcnfcddamaa.PFnExactZigzag
open Go.RowKit Go.Proofs.YtgmbbcnfcddamaaW.PrintWords Go.Proofs.YtgmbbcnfcddamaaW.PrintLast Go.Proofs.YtgmbbcnfcddamaaW.PrintMore Go.Proofs.Ytgmbbcnfcddamaa.SeenInt
open Go.Proofs.YtgmbbcnfcddamaaW.PrintWords.Aside0 renaming mk → zA
open Go.Proofs.YtgmbbcnfcddamaaW.PrintWords.Kd renaming R_drewN → zE, R_alloc → zF, R_drew → zG, C_drewN → zH, C_alloc → zI, C_drew → zJ, R_reads' → zK, R_below → zL
open Go.Proofs.YtgmbbcnfcddamaaW.PrintWords renaming blk_drewN → zM, blk_drew → zN, blk_alloc → zO, pw_below_drewN → zP, below_drew1 → zQ, below_alloc → zR, below_set → zS, below_size → zT, blk_below → zU
attribute [local go_sem] i64_w max2_int min2_int max_two min_two max_three min_three max_four min_four
set_option linter.unusedVariables false
set_option linter.unusedSimpArgs false

mutual
def impl_Zigzag.j0 : Nat → Int → Bool → Int → Int → List Int → Int → Int → List Int → Int → Option ((List (S61)) × Int)
 | 0, _, _, _, _, _, _, _, _, _ => none
 | k + 1, x3, x35, x267000, x267001, x267002, x268000, x268001, x268002, x269000 => if x35 = true then (some (([] : List (S61)), 1)) else ((impl_lowest.f k x268000 x268001 x268002 x269000).bind fun t270 => (if ([] : List Int).length + x267002.length < 17592186044416 then (impl_Zigzag.l0 k x3 t270 [] (wrap64 (24 - x3)) x268000 x268001 x268002 x269000 (([] : List Int) ++ x267002) (([(⟨true, 0, 0, 24⟩ : S61)] : List (S61))) 0) else (none)))
def impl_Zigzag.l0 : Nat → Int → List Int → List Int → Int → Int → Int → List Int → Int → List Int → List (S61) → Int → Option ((List (S61)) × Int)
 | 0, _, _, _, _, _, _, _, _, _, _, _ => none
 | k + 1, x3, x10, x15, x16, x268000, x268001, x268002, x269000, x277000, x281000, x282000 => if Small (mx x16 0) then (if x15.length < 1000 then (impl_Zigzag.l1 k x3 x10 (x15 ++ [mx x16 0]) (mx x16 0) 0 x268000 x268001 x268002 x269000 x277000 x281000 x282000) else (none)) else (none)
def impl_Zigzag.l1 : Nat → Int → List Int → List Int → Int → Int → Int → Int → List Int → Int → List Int → List (S61) → Int → Option ((List (S61)) × Int)
 | 0, _, _, _, _, _, _, _, _, _, _, _, _ => none
 | k + 1, x3, x10, x15, x16, x17, x268000, x268001, x268002, x269000, x277000, x281000, x282000 => if x17 < x268001 then (impl_Zigzag.l2 k x3 x10 x15 x16 x17 0 x268000 x268001 x268002 x269000 x277000 x281000 x282000) else (if x16 = 0 then (impl_Zigzag.l3 k x10 x15 0 x268000 x268001 x268002 x269000 x277000 x281000 x282000) else (impl_Zigzag.l0 k x3 x10 x15 (wrap64 (x16 - x3)) x268000 x268001 x268002 x269000 x277000 x281000 x282000))
def impl_Zigzag.l2 : Nat → Int → List Int → List Int → Int → Int → Int → Int → Int → List Int → Int → List Int → List (S61) → Int → Option ((List (S61)) × Int)
 | 0, _, _, _, _, _, _, _, _, _, _, _, _, _ => none
 | k + 1, x3, x10, x15, x16, x17, x18, x268000, x268001, x268002, x269000, x277000, x281000, x282000 => if x18 < x268000 then (if (Int.tmod x17 2) = 1 then (if 0 ≤ (wrap64 ((wrap64 (x17 * x268000)) + (wrap64 ((wrap64 (x268000 - 1)) - x18)))) then (if (wrap64 ((wrap64 (x17 * x268000)) + (wrap64 ((wrap64 (x268000 - 1)) - x18)))) < (x10.length : Int) then (if (rd x10 (wrap64 ((wrap64 (x17 * x268000)) + (wrap64 ((wrap64 (x268000 - 1)) - x18))))) ≤ x16 then ((impl_Zigzag_1.f k (wrap64 ((wrap64 (x268000 - 1)) - x18)) x17 x16 x268000 x268001 x268002 x269000 x277000 x281000 x282000).bind fun bt283 => (impl_Zigzag.l2 k x3 x10 x15 x16 x17 (wrap64 (x18 + 1)) x268000 x268001 x268002 x269000 bt283.2.2 bt283.2.1 bt283.1)) else (impl_Zigzag.l2 k x3 x10 x15 x16 x17 (wrap64 (x18 + 1)) x268000 x268001 x268002 x269000 x277000 x281000 x282000)) else (none)) else (none)) else (if 0 ≤ (wrap64 ((wrap64 (x17 * x268000)) + x18)) then (if (wrap64 ((wrap64 (x17 * x268000)) + x18)) < (x10.length : Int) then (if (rd x10 (wrap64 ((wrap64 (x17 * x268000)) + x18))) ≤ x16 then ((impl_Zigzag_1.f k x18 x17 x16 x268000 x268001 x268002 x269000 x277000 x281000 x282000).bind fun bt289 => (impl_Zigzag.l2 k x3 x10 x15 x16 x17 (wrap64 (x18 + 1)) x268000 x268001 x268002 x269000 bt289.2.2 bt289.2.1 bt289.1)) else (impl_Zigzag.l2 k x3 x10 x15 x16 x17 (wrap64 (x18 + 1)) x268000 x268001 x268002 x269000 x277000 x281000 x282000)) else (none)) else (none))) else (impl_Zigzag.l1 k x3 x10 x15 x16 (wrap64 (x17 + 1)) x268000 x268001 x268002 x269000 x277000 x281000 x282000)
def impl_Zigzag.l3 : Nat → List Int → List Int → Int → Int → Int → List Int → Int → List Int → List (S61) → Int → Option ((List (S61)) × Int)
 | 0, _, _, _, _, _, _, _, _, _, _ => none
 | k + 1, x10, x15, x20, x268000, x268001, x268002, x269000, x277000, x281000, x282000 => if x20 < x268001 then (impl_Zigzag.l4 k x10 x15 x20 0 x268000 x268001 x268002 x269000 x277000 x281000 x282000) else (if (x281000.length : Int) > 2000 then (some (([] : List (S61)), 18)) else (some (x281000, 0)))
def impl_Zigzag.l4 : Nat → List Int → List Int → Int → Int → Int → Int → List Int → Int → List Int → List (S61) → Int → Option ((List (S61)) × Int)
 | 0, _, _, _, _, _, _, _, _, _, _, _ => none
 | k + 1, x10, x15, x20, x21, x268000, x268001, x268002, x269000, x277000, x281000, x282000 => if x21 < x268000 then (if 0 ≤ (wrap64 ((wrap64 (x20 * x268000)) + x21)) then (if (wrap64 ((wrap64 (x20 * x268000)) + x21)) < (x10.length : Int) then (if Small (rd x10 (wrap64 ((wrap64 (x20 * x268000)) + x21))) then (if inI x15 (rd x10 (wrap64 ((wrap64 (x20 * x268000)) + x21))) = true then (impl_Zigzag.l4 k x10 x15 x20 (wrap64 (x21 + 1)) x268000 x268001 x268002 x269000 x277000 x281000 x282000) else ((impl_Zigzag_1.f k x21 x20 (rd x10 (wrap64 ((wrap64 (x20 * x268000)) + x21))) x268000 x268001 x268002 x269000 x277000 x281000 x282000).bind fun bt295 => (impl_Zigzag.l4 k x10 x15 x20 (wrap64 (x21 + 1)) x268000 x268001 x268002 x269000 bt295.2.2 bt295.2.1 bt295.1))) else (none)) else (none)) else (none)) else (impl_Zigzag.l3 k x10 x15 (wrap64 (x20 + 1)) x268000 x268001 x268002 x269000 x277000 x281000 x282000)
end
def impl_Zigzag.f (k : Nat) (a0_0 : Int) (a0_1 : Int) (l0_2 : List Int) (a1_0 : Int) (a1_1 : Int) (l1_2 : List Int) (a2 : Int) (a3 : Int) : Option ((List (S61)) × Int) := (impl_millOK.f k a0_0 a0_1 l0_2 a1_0 a1_1 l1_2 a2).bind fun t269 => (if t269 = true then (if a3 < 1 then (impl_Zigzag.j0 k a3 true a0_0 a0_1 l0_2 a1_0 a1_1 l1_2 a2) else (impl_Zigzag.j0 k a3 (decide (a3 > 24)) a0_0 a0_1 l0_2 a1_0 a1_1 l1_2 a2)) else (impl_Zigzag.j0 k a3 true a0_0 a0_1 l0_2 a1_0 a1_1 l1_2 a2))
theorem impl_Zigzag.mono_l : ∀ k, (∀ y0 y1 y2 y3 y4 y5 y6 y7 y8, LeO (impl_Zigzag.j0 k y0 y1 y2 y3 y4 y5 y6 y7 y8) (impl_Zigzag.j0 (k + 1) y0 y1 y2 y3 y4 y5 y6 y7 y8)) ∧ (∀ y0 y1 y2 y3 y4 y5 y6 y7 y8 y9 y10, LeO (impl_Zigzag.l0 k y0 y1 y2 y3 y4 y5 y6 y7 y8 y9 y10) (impl_Zigzag.l0 (k + 1) y0 y1 y2 y3 y4 y5 y6 y7 y8 y9 y10)) ∧ (∀ y0 y1 y2 y3 y4 y5 y6 y7 y8 y9 y10 y11, LeO (impl_Zigzag.l1 k y0 y1 y2 y3 y4 y5 y6 y7 y8 y9 y10 y11) (impl_Zigzag.l1 (k + 1) y0 y1 y2 y3 y4 y5 y6 y7 y8 y9 y10 y11)) ∧ (∀ y0 y1 y2 y3 y4 y5 y6 y7 y8 y9 y10 y11 y12, LeO (impl_Zigzag.l2 k y0 y1 y2 y3 y4 y5 y6 y7 y8 y9 y10 y11 y12) (impl_Zigzag.l2 (k + 1) y0 y1 y2 y3 y4 y5 y6 y7 y8 y9 y10 y11 y12)) ∧ (∀ y0 y1 y2 y3 y4 y5 y6 y7 y8 y9, LeO (impl_Zigzag.l3 k y0 y1 y2 y3 y4 y5 y6 y7 y8 y9) (impl_Zigzag.l3 (k + 1) y0 y1 y2 y3 y4 y5 y6 y7 y8 y9)) ∧ (∀ y0 y1 y2 y3 y4 y5 y6 y7 y8 y9 y10, LeO (impl_Zigzag.l4 k y0 y1 y2 y3 y4 y5 y6 y7 y8 y9 y10) (impl_Zigzag.l4 (k + 1) y0 y1 y2 y3 y4 y5 y6 y7 y8 y9 y10))
 | 0 => ⟨fun _ _ _ _ _ _ _ _ _ r h => by simp [impl_Zigzag.j0] at h, fun _ _ _ _ _ _ _ _ _ _ _ r h => by simp [impl_Zigzag.l0] at h, fun _ _ _ _ _ _ _ _ _ _ _ _ r h => by simp [impl_Zigzag.l1] at h, fun _ _ _ _ _ _ _ _ _ _ _ _ _ r h => by simp [impl_Zigzag.l2] at h, fun _ _ _ _ _ _ _ _ _ _ r h => by simp [impl_Zigzag.l3] at h, fun _ _ _ _ _ _ _ _ _ _ _ r h => by simp [impl_Zigzag.l4] at h⟩
 | k + 1 => by
  obtain ⟨ih0, ih1, ih2, ih3, ih4, ih5⟩ := impl_Zigzag.mono_l k
  refine ⟨?_, ?_, ?_, ?_, ?_, ?_⟩
  ·intro y0 y1 y2 y3 y4 y5 y6 y7 y8
   unfold impl_Zigzag.j0
   repeat' first
   | (with_reducible exact ih0 _ _ _ _ _ _ _ _ _)
   | (with_reducible exact ih1 _ _ _ _ _ _ _ _ _ _ _)
   | (with_reducible exact ih2 _ _ _ _ _ _ _ _ _ _ _ _)
   | (with_reducible exact ih3 _ _ _ _ _ _ _ _ _ _ _ _ _)
   | (with_reducible exact ih4 _ _ _ _ _ _ _ _ _ _)
   | (with_reducible exact ih5 _ _ _ _ _ _ _ _ _ _ _)
   | (with_reducible exact impl_Zigzag_1.mono _ _ _ _ _ _ _ _ _ _ _)
   | (with_reducible exact impl_lowest.mono _ _ _ _ _)
   | (with_reducible exact impl_millOK.mono _ _ _ _ _ _ _ _)
   | (with_reducible exact LeO.refl _)
   | (with_reducible exact LeO.none _)
   | (with_reducible refine LeO.ite ?_ ?_)
   | (with_reducible refine LeO.bind ?_ (fun _ => ?_))
   | exact ih0 _ _ _ _ _ _ _ _ _
   | exact ih1 _ _ _ _ _ _ _ _ _ _ _
   | exact ih2 _ _ _ _ _ _ _ _ _ _ _ _
   | exact ih3 _ _ _ _ _ _ _ _ _ _ _ _ _
   | exact ih4 _ _ _ _ _ _ _ _ _ _
   | exact ih5 _ _ _ _ _ _ _ _ _ _ _
   | exact impl_Zigzag_1.mono _ _ _ _ _ _ _ _ _ _ _
   | exact impl_lowest.mono _ _ _ _ _
   | exact impl_millOK.mono _ _ _ _ _ _ _ _
   | exact LeO.none _
   | refine LeO.ite ?_ ?_
   | refine LeO.bind ?_ (fun _ => ?_)
  ·intro y0 y1 y2 y3 y4 y5 y6 y7 y8 y9 y10
   unfold impl_Zigzag.l0
   repeat' first
   | (with_reducible exact ih0 _ _ _ _ _ _ _ _ _)
   | (with_reducible exact ih1 _ _ _ _ _ _ _ _ _ _ _)
   | (with_reducible exact ih2 _ _ _ _ _ _ _ _ _ _ _ _)
   | (with_reducible exact ih3 _ _ _ _ _ _ _ _ _ _ _ _ _)
   | (with_reducible exact ih4 _ _ _ _ _ _ _ _ _ _)
   | (with_reducible exact ih5 _ _ _ _ _ _ _ _ _ _ _)
   | (with_reducible exact impl_Zigzag_1.mono _ _ _ _ _ _ _ _ _ _ _)
   | (with_reducible exact impl_lowest.mono _ _ _ _ _)
   | (with_reducible exact impl_millOK.mono _ _ _ _ _ _ _ _)
   | (with_reducible exact LeO.refl _)
   | (with_reducible exact LeO.none _)
   | (with_reducible refine LeO.ite ?_ ?_)
   | (with_reducible refine LeO.bind ?_ (fun _ => ?_))
   | exact ih0 _ _ _ _ _ _ _ _ _
   | exact ih1 _ _ _ _ _ _ _ _ _ _ _
   | exact ih2 _ _ _ _ _ _ _ _ _ _ _ _
   | exact ih3 _ _ _ _ _ _ _ _ _ _ _ _ _
   | exact ih4 _ _ _ _ _ _ _ _ _ _
   | exact ih5 _ _ _ _ _ _ _ _ _ _ _
   | exact impl_Zigzag_1.mono _ _ _ _ _ _ _ _ _ _ _
   | exact impl_lowest.mono _ _ _ _ _
   | exact impl_millOK.mono _ _ _ _ _ _ _ _
   | exact LeO.none _
   | refine LeO.ite ?_ ?_
   | refine LeO.bind ?_ (fun _ => ?_)
  ·intro y0 y1 y2 y3 y4 y5 y6 y7 y8 y9 y10 y11
   unfold impl_Zigzag.l1
   repeat' first
   | (with_reducible exact ih0 _ _ _ _ _ _ _ _ _)
   | (with_reducible exact ih1 _ _ _ _ _ _ _ _ _ _ _)
   | (with_reducible exact ih2 _ _ _ _ _ _ _ _ _ _ _ _)
   | (with_reducible exact ih3 _ _ _ _ _ _ _ _ _ _ _ _ _)
   | (with_reducible exact ih4 _ _ _ _ _ _ _ _ _ _)
   | (with_reducible exact ih5 _ _ _ _ _ _ _ _ _ _ _)
   | (with_reducible exact impl_Zigzag_1.mono _ _ _ _ _ _ _ _ _ _ _)
   | (with_reducible exact impl_lowest.mono _ _ _ _ _)
   | (with_reducible exact impl_millOK.mono _ _ _ _ _ _ _ _)
   | (with_reducible exact LeO.refl _)
   | (with_reducible exact LeO.none _)
   | (with_reducible refine LeO.ite ?_ ?_)
   | (with_reducible refine LeO.bind ?_ (fun _ => ?_))
   | exact ih0 _ _ _ _ _ _ _ _ _
   | exact ih1 _ _ _ _ _ _ _ _ _ _ _
   | exact ih2 _ _ _ _ _ _ _ _ _ _ _ _
   | exact ih3 _ _ _ _ _ _ _ _ _ _ _ _ _
   | exact ih4 _ _ _ _ _ _ _ _ _ _
   | exact ih5 _ _ _ _ _ _ _ _ _ _ _
   | exact impl_Zigzag_1.mono _ _ _ _ _ _ _ _ _ _ _
   | exact impl_lowest.mono _ _ _ _ _
   | exact impl_millOK.mono _ _ _ _ _ _ _ _
   | exact LeO.none _
   | refine LeO.ite ?_ ?_
   | refine LeO.bind ?_ (fun _ => ?_)
  ·intro y0 y1 y2 y3 y4 y5 y6 y7 y8 y9 y10 y11 y12
   unfold impl_Zigzag.l2
   repeat' first
   | (with_reducible exact ih0 _ _ _ _ _ _ _ _ _)
   | (with_reducible exact ih1 _ _ _ _ _ _ _ _ _ _ _)
   | (with_reducible exact ih2 _ _ _ _ _ _ _ _ _ _ _ _)
   | (with_reducible exact ih3 _ _ _ _ _ _ _ _ _ _ _ _ _)
   | (with_reducible exact ih4 _ _ _ _ _ _ _ _ _ _)
   | (with_reducible exact ih5 _ _ _ _ _ _ _ _ _ _ _)
   | (with_reducible exact impl_Zigzag_1.mono _ _ _ _ _ _ _ _ _ _ _)
   | (with_reducible exact impl_lowest.mono _ _ _ _ _)
   | (with_reducible exact impl_millOK.mono _ _ _ _ _ _ _ _)
   | (with_reducible exact LeO.refl _)
   | (with_reducible exact LeO.none _)
   | (with_reducible refine LeO.ite ?_ ?_)
   | (with_reducible refine LeO.bind ?_ (fun _ => ?_))
   | exact ih0 _ _ _ _ _ _ _ _ _
   | exact ih1 _ _ _ _ _ _ _ _ _ _ _
   | exact ih2 _ _ _ _ _ _ _ _ _ _ _ _
   | exact ih3 _ _ _ _ _ _ _ _ _ _ _ _ _
   | exact ih4 _ _ _ _ _ _ _ _ _ _
   | exact ih5 _ _ _ _ _ _ _ _ _ _ _
   | exact impl_Zigzag_1.mono _ _ _ _ _ _ _ _ _ _ _
   | exact impl_lowest.mono _ _ _ _ _
   | exact impl_millOK.mono _ _ _ _ _ _ _ _
   | exact LeO.none _
   | refine LeO.ite ?_ ?_
   | refine LeO.bind ?_ (fun _ => ?_)
  ·intro y0 y1 y2 y3 y4 y5 y6 y7 y8 y9
   unfold impl_Zigzag.l3
   repeat' first
   | (with_reducible exact ih0 _ _ _ _ _ _ _ _ _)
   | (with_reducible exact ih1 _ _ _ _ _ _ _ _ _ _ _)
   | (with_reducible exact ih2 _ _ _ _ _ _ _ _ _ _ _ _)
   | (with_reducible exact ih3 _ _ _ _ _ _ _ _ _ _ _ _ _)
   | (with_reducible exact ih4 _ _ _ _ _ _ _ _ _ _)
   | (with_reducible exact ih5 _ _ _ _ _ _ _ _ _ _ _)
   | (with_reducible exact impl_Zigzag_1.mono _ _ _ _ _ _ _ _ _ _ _)
   | (with_reducible exact impl_lowest.mono _ _ _ _ _)
   | (with_reducible exact impl_millOK.mono _ _ _ _ _ _ _ _)
   | (with_reducible exact LeO.refl _)
   | (with_reducible exact LeO.none _)
   | (with_reducible refine LeO.ite ?_ ?_)
   | (with_reducible refine LeO.bind ?_ (fun _ => ?_))
   | exact ih0 _ _ _ _ _ _ _ _ _
   | exact ih1 _ _ _ _ _ _ _ _ _ _ _
   | exact ih2 _ _ _ _ _ _ _ _ _ _ _ _
   | exact ih3 _ _ _ _ _ _ _ _ _ _ _ _ _
   | exact ih4 _ _ _ _ _ _ _ _ _ _
   | exact ih5 _ _ _ _ _ _ _ _ _ _ _
   | exact impl_Zigzag_1.mono _ _ _ _ _ _ _ _ _ _ _
   | exact impl_lowest.mono _ _ _ _ _
   | exact impl_millOK.mono _ _ _ _ _ _ _ _
   | exact LeO.none _
   | refine LeO.ite ?_ ?_
   | refine LeO.bind ?_ (fun _ => ?_)
  ·intro y0 y1 y2 y3 y4 y5 y6 y7 y8 y9 y10
   unfold impl_Zigzag.l4
   repeat' first
   | (with_reducible exact ih0 _ _ _ _ _ _ _ _ _)
   | (with_reducible exact ih1 _ _ _ _ _ _ _ _ _ _ _)
   | (with_reducible exact ih2 _ _ _ _ _ _ _ _ _ _ _ _)
   | (with_reducible exact ih3 _ _ _ _ _ _ _ _ _ _ _ _ _)
   | (with_reducible exact ih4 _ _ _ _ _ _ _ _ _ _)
   | (with_reducible exact ih5 _ _ _ _ _ _ _ _ _ _ _)
   | (with_reducible exact impl_Zigzag_1.mono _ _ _ _ _ _ _ _ _ _ _)
   | (with_reducible exact impl_lowest.mono _ _ _ _ _)
   | (with_reducible exact impl_millOK.mono _ _ _ _ _ _ _ _)
   | (with_reducible exact LeO.refl _)
   | (with_reducible exact LeO.none _)
   | (with_reducible refine LeO.ite ?_ ?_)
   | (with_reducible refine LeO.bind ?_ (fun _ => ?_))
   | exact ih0 _ _ _ _ _ _ _ _ _
   | exact ih1 _ _ _ _ _ _ _ _ _ _ _
   | exact ih2 _ _ _ _ _ _ _ _ _ _ _ _
   | exact ih3 _ _ _ _ _ _ _ _ _ _ _ _ _
   | exact ih4 _ _ _ _ _ _ _ _ _ _
   | exact ih5 _ _ _ _ _ _ _ _ _ _ _
   | exact impl_Zigzag_1.mono _ _ _ _ _ _ _ _ _ _ _
   | exact impl_lowest.mono _ _ _ _ _
   | exact impl_millOK.mono _ _ _ _ _ _ _ _
   | exact LeO.none _
   | refine LeO.ite ?_ ?_
   | refine LeO.bind ?_ (fun _ => ?_)
theorem impl_Zigzag.mono : ∀ a0 a1 a2 a3 a4 a5 a6 a7 k, LeO (impl_Zigzag.f k a0 a1 a2 a3 a4 a5 a6 a7) (impl_Zigzag.f (k + 1) a0 a1 a2 a3 a4 a5 a6 a7) := by
 intro a0 a1 a2 a3 a4 a5 a6 a7 k
 obtain ⟨ih0, ih1, ih2, ih3, ih4, ih5⟩ := impl_Zigzag.mono_l k
 unfold impl_Zigzag.f
 repeat' first
   | (with_reducible exact ih0 _ _ _ _ _ _ _ _ _)
   | (with_reducible exact ih1 _ _ _ _ _ _ _ _ _ _ _)
   | (with_reducible exact ih2 _ _ _ _ _ _ _ _ _ _ _ _)
   | (with_reducible exact ih3 _ _ _ _ _ _ _ _ _ _ _ _ _)
   | (with_reducible exact ih4 _ _ _ _ _ _ _ _ _ _)
   | (with_reducible exact ih5 _ _ _ _ _ _ _ _ _ _ _)
   | (with_reducible exact impl_Zigzag_1.mono _ _ _ _ _ _ _ _ _ _ _)
   | (with_reducible exact impl_lowest.mono _ _ _ _ _)
   | (with_reducible exact impl_millOK.mono _ _ _ _ _ _ _ _)
   | (with_reducible exact LeO.refl _)
   | (with_reducible exact LeO.none _)
   | (with_reducible refine LeO.ite ?_ ?_)
   | (with_reducible refine LeO.bind ?_ (fun _ => ?_))
   | exact ih0 _ _ _ _ _ _ _ _ _
   | exact ih1 _ _ _ _ _ _ _ _ _ _ _
   | exact ih2 _ _ _ _ _ _ _ _ _ _ _ _
   | exact ih3 _ _ _ _ _ _ _ _ _ _ _ _ _
   | exact ih4 _ _ _ _ _ _ _ _ _ _
   | exact ih5 _ _ _ _ _ _ _ _ _ _ _
   | exact impl_Zigzag_1.mono _ _ _ _ _ _ _ _ _ _ _
   | exact impl_lowest.mono _ _ _ _ _
   | exact impl_millOK.mono _ _ _ _ _ _ _ _
   | exact LeO.none _
   | refine LeO.ite ?_ ?_
   | refine LeO.bind ?_ (fun _ => ?_)
set_option maxHeartbeats 8000000 in
set_option maxRecDepth 100000 in
theorem impl_Zigzag.calls (k : Nat) (a0_0 : Int) (a0_1 : Int) (A0_2 : Option Addr) (c0_2 : Nat) (l0_2 : List Int) (a1_0 : Int) (a1_1 : Int) (A1_2 : Option Addr) (c1_2 : Nat) (l1_2 : List Int) (a2 : Int) (a3 : Int) (r1 : List (S61)) (r2 : Int) (w : World) (hr0_2 : Kd.C (Kd.int .i64) w A0_2 l0_2.length l0_2) (hc0_2 : l0_2.length ≤ c0_2) (hr1_2 : Kd.C (Kd.int .i64) w A1_2 l1_2.length l1_2) (hc1_2 : l1_2.length ≤ c1_2) (h : impl_Zigzag.f k a0_0 a0_1 l0_2 a1_0 a1_1 l1_2 a2 a3 = some (r1, r2)) :
  Calls Try.prog 28 #[.agg #[.int .i64 a0_0, .int .i64 a0_1, .slice A0_2 l0_2.length c0_2], .agg #[.int .i64 a1_0, .int .i64 a1_1, .slice A1_2 l1_2.length c1_2], .int .i64 a2, .int .i64 a3] w fun e w' => ∃ v0_ : Value, e = .returned (.tuple #[v0_, .int .i64 r2]) ∧ Kd.R k61 61 w' w.heap.size (fun _ => True) v0_ r1 ∧ Below w.heap.size w w' := by
 have hu26 := Try.underlying26
 have hu61 := Try.underlying61
 have HR0_2 := zA hr0_2
 have HC0_2 := zA hc0_2
 clear hr0_2 hc0_2
 have HR1_2 := zA hr1_2
 have HC1_2 := zA hc1_2
 clear hr1_2 hc1_2
 have HB := zA (Below.refl w.heap.size w)
 have hmf : ∀ (fn : Fn) (first cap : Array Value) (w : World), (Instr.makeFunc fn first cap).run Try.prog w = .ok (.func fn first cap) w := fun _ _ _ _ => rfl
 have H : ((impl_millOK.f k a0_0 a0_1 l0_2 a1_0 a1_1 l1_2 a2).bind fun t269 => (if t269 = true then (if a3 < 1 then (impl_Zigzag.j0 k a3 true a0_0 a0_1 l0_2 a1_0 a1_1 l1_2 a2) else (impl_Zigzag.j0 k a3 (decide (a3 > 24)) a0_0 a0_1 l0_2 a1_0 a1_1 l1_2 a2)) else (impl_Zigzag.j0 k a3 true a0_0 a0_1 l0_2 a1_0 a1_1 l1_2 a2))) = some (r1, r2) := h
 clear h
 have HC5 := zA H
 clear H
 go_enter Try.func28, Try.ntmps28
 go_upto_region 1 with (first | ((with_reducible refine gate_dst (N := 4) rfl ?_); refine box_event ?hg (N := 4) ?hd (cs := #[.int .i64 a0_0, .int .i64 a0_1, .slice A0_2 l0_2.length c0_2]) (t := 26) ?hr ?_; (case hd => rfl); (case hg => rfl); (case hr => first | (go_simp; done) | (go_simp; rfl)); intro gb266 hg w6 hbox hb; have n0_ := zA (below_step (bB_ HB) hb); have n1_ := zA (hbox); have n2_ := zA ((by rw [hg]; exact (zT (bB_ HB)) : w.heap.size ≤ gb266)); have n3_ := zA ((by rw [hg]; exact (zT (bB_ HB)) : w.heap.size ≤ gb266)); clear HB; have HB := n0_; have BK266 := n1_; have GW266 := n2_; have GE266 := n3_; clear n0_ n1_ n2_ n3_; clear hb hbox hg) | ((with_reducible refine gate_dst (N := 5) rfl ?_); refine box_event ?hg (N := 5) ?hd (cs := #[.int .i64 a1_0, .int .i64 a1_1, .slice A1_2 l1_2.length c1_2]) (t := 26) ?hr ?_; (case hd => rfl); (case hg => rfl); (case hr => first | (go_simp; done) | (go_simp; rfl)); intro gb267 hg w7 hbox hb; have n0_ := zA (zU (g := gb266) (o := .cells #[.int .i64 a0_0, .int .i64 a0_1, .slice A0_2 l0_2.length c0_2] 26 (0, 0)) (bA_ BK266) hb); have n1_ := zA (below_step (bB_ HB) hb); have n2_ := zA (hbox); have n3_ := zA ((by rw [hg]; exact (zT (bB_ HB)) : w.heap.size ≤ gb267)); have n4_ := zA ((by rw [hg]; exact (zT (bB_ HB)) : w.heap.size ≤ gb267)); have n5_ := zA ((by rw [hg]; exact Nat.ne_of_lt (blk_lt (g := gb266) (o := .cells #[.int .i64 a0_0, .int .i64 a0_1, .slice A0_2 l0_2.length c0_2] 26 (0, 0)) (bA_ BK266)) : gb266 ≠ gb267)); have n6_ := zA ((by rw [hg]; exact Nat.ne_of_gt (blk_lt (g := gb266) (o := .cells #[.int .i64 a0_0, .int .i64 a0_1, .slice A0_2 l0_2.length c0_2] 26 (0, 0)) (bA_ BK266)) : gb267 ≠ gb266)); clear BK266; clear HB; have BK266 := n0_; have HB := n1_; have BK267 := n2_; have GW267 := n3_; have GE267 := n4_; have NB266_267 := n5_; have NB267_266 := n6_; clear n0_ n1_ n2_ n3_ n4_ n5_ n6_; clear hb hbox hg) | ((with_reducible refine gate_dst (N := 6) rfl ?_); refine box_event ?hg (N := 6) ?hd (cs := #[.int .i64 a2]) (t := 3) ?hr ?_; (case hd => rfl); (case hg => rfl); (case hr => first | (go_simp; done) | (go_simp; rfl)); intro gb268 hg w8 hbox hb; have n0_ := zA (zU (g := gb266) (o := .cells #[.int .i64 a0_0, .int .i64 a0_1, .slice A0_2 l0_2.length c0_2] 26 (0, 0)) (bA_ BK266) hb); have n1_ := zA (zU (g := gb267) (o := .cells #[.int .i64 a1_0, .int .i64 a1_1, .slice A1_2 l1_2.length c1_2] 26 (0, 0)) (bA_ BK267) hb); have n2_ := zA (below_step (bB_ HB) hb); have n3_ := zA (hbox); have n4_ := zA ((by rw [hg]; exact (zT (bB_ HB)) : w.heap.size ≤ gb268)); have n5_ := zA ((by rw [hg]; exact (zT (bB_ HB)) : w.heap.size ≤ gb268)); have n6_ := zA ((by rw [hg]; exact Nat.ne_of_lt (blk_lt (g := gb266) (o := .cells #[.int .i64 a0_0, .int .i64 a0_1, .slice A0_2 l0_2.length c0_2] 26 (0, 0)) (bA_ BK266)) : gb266 ≠ gb268)); have n7_ := zA ((by rw [hg]; exact Nat.ne_of_gt (blk_lt (g := gb266) (o := .cells #[.int .i64 a0_0, .int .i64 a0_1, .slice A0_2 l0_2.length c0_2] 26 (0, 0)) (bA_ BK266)) : gb268 ≠ gb266)); have n8_ := zA ((by rw [hg]; exact Nat.ne_of_lt (blk_lt (g := gb267) (o := .cells #[.int .i64 a1_0, .int .i64 a1_1, .slice A1_2 l1_2.length c1_2] 26 (0, 0)) (bA_ BK267)) : gb267 ≠ gb268)); have n9_ := zA ((by rw [hg]; exact Nat.ne_of_gt (blk_lt (g := gb267) (o := .cells #[.int .i64 a1_0, .int .i64 a1_1, .slice A1_2 l1_2.length c1_2] 26 (0, 0)) (bA_ BK267)) : gb268 ≠ gb267)); clear BK266; clear BK267; clear HB; have BK266 := n0_; have BK267 := n1_; have HB := n2_; have BK268 := n3_; have GW268 := n4_; have GE268 := n5_; have NB266_268 := n6_; have NB268_266 := n7_; have NB267_268 := n8_; have NB268_267 := n9_; clear n0_ n1_ n2_ n3_ n4_ n5_ n6_ n7_ n8_ n9_; clear hb hbox hg))
 (try simp only [Act.put, List.setIfInBounds_toArray, List.set_cons_zero, List.set_cons_succ])
 go_cut [35] (fun v35 wc => ∃ (kq : Nat) (x35_4 : Bool), v35 = .bool x35_4 ∧ Aside0 (impl_Zigzag.j0 kq a3 x35_4 a0_0 a0_1 l0_2 a1_0 a1_1 l1_2 a2 = some (r1, r2)) ∧ Aside0 (kq ≤ k) ∧ Aside0 (wc.heap[gb266]? = some (.cells #[.int .i64 a0_0, .int .i64 a0_1, (.slice A0_2 l0_2.length c0_2)] 26 (0, 0))) ∧ Aside0 (wc.heap[gb267]? = some (.cells #[.int .i64 a1_0, .int .i64 a1_1, (.slice A1_2 l1_2.length c1_2)] 26 (0, 0))) ∧ Aside0 (wc.heap[gb268]? = some (.cells #[.int .i64 a2] 3 (0, 0))) ∧ Aside0 (Below w.heap.size w wc))
 case first =>
  have H := HC5.out
  clear HC5
  replace H := Option.bind_eq_some_iff.mp H
  obtain ⟨t269, A90, H⟩ := H
  replace H : (if t269 = true then (if a3 < 1 then (impl_Zigzag.j0 k a3 true a0_0 a0_1 l0_2 a1_0 a1_1 l1_2 a2) else (impl_Zigzag.j0 k a3 (decide (a3 > 24)) a0_0 a0_1 l0_2 a1_0 a1_1 l1_2 a2)) else (impl_Zigzag.j0 k a3 true a0_0 a0_1 l0_2 a1_0 a1_1 l1_2 a2)) = some (r1, r2) := H
  have A9 := zA A90
  clear A90
  by_cases c10 : t269 = true
  ·subst c10
   have H1 : (if a3 < 1 then (impl_Zigzag.j0 k a3 true a0_0 a0_1 l0_2 a1_0 a1_1 l1_2 a2) else (impl_Zigzag.j0 k a3 (decide (a3 > 24)) a0_0 a0_1 l0_2 a1_0 a1_1 l1_2 a2)) = some (r1, r2) := by rw [if_pos rfl] at H; exact H
   clear H
   have H := H1
   clear H1
   by_cases c11 : a3 < 1
   ·rw [if_pos c11] at H
    have c11b0 : decide (a3 < 1) = true := decide_eq_true c11
    clear c11
    (first | rw [c11b0] | (simp only [i64_w, i32_w]; rw [c11b0]) | skip)
    have H' := zA H
    clear H
    have hnb12 := NB266_267.out
    have hnc12 := NB267_266.out
    have hnb13 := NB266_268.out
    have hnc13 := NB268_266.out
    have hcz14_0 : w8.cell? ⟨gb266, 0, none⟩ = some (.int .i64 a0_0) := (blk_cell BK266.out 0).trans rfl
    have hcz14_1 : w8.cell? ⟨gb266, 1, none⟩ = some (.int .i64 a0_1) := (blk_cell BK266.out 1).trans rfl
    have hcz14_2 : w8.cell? ⟨gb266, 2, none⟩ = some (.slice A0_2 l0_2.length c0_2) := (blk_cell BK266.out 2).trans rfl
    have hfz14_0 := blk_frozen BK266.out 0
    have hfz14_1 := blk_frozen BK266.out 1
    have hfz14_2 := blk_frozen BK266.out 2
    have hnb15 := NB267_268.out
    have hnc15 := NB268_267.out
    have hcz16_0 : w8.cell? ⟨gb267, 0, none⟩ = some (.int .i64 a1_0) := (blk_cell BK267.out 0).trans rfl
    have hcz16_1 : w8.cell? ⟨gb267, 1, none⟩ = some (.int .i64 a1_1) := (blk_cell BK267.out 1).trans rfl
    have hcz16_2 : w8.cell? ⟨gb267, 2, none⟩ = some (.slice A1_2 l1_2.length c1_2) := (blk_cell BK267.out 2).trans rfl
    have hfz16_0 := blk_frozen BK267.out 0
    have hfz16_1 := blk_frozen BK267.out 1
    have hfz16_2 := blk_frozen BK267.out 2
    have hcz17_0 : w8.cell? ⟨gb268, 0, none⟩ = some (.int .i64 a2) := (blk_cell BK268.out 0).trans rfl
    have hfz17_0 := blk_frozen BK268.out 0
    go_wp2_with (first | ((with_reducible refine gate_callee (f := 60) rfl ?_); refine goesL_ (some 26) rfl rfl Try.func60 (by kernel_rfl) rfl #[.agg #[.int .i64 a0_0, .int .i64 a0_1, .slice A0_2 l0_2.length c0_2], .agg #[.int .i64 a1_0, .int .i64 a1_1, .slice A1_2 l1_2.length c1_2], .int .i64 a2] rfl (by (try simp only [List.map_toArray, List.map_cons, List.map_nil]); first | done | rfl | (simp only [List.length_drop, List.length_take]; rfl)) ?_; (with_reducible refine (impl_millOK.calls k a0_0 a0_1 _ _ l0_2 a1_0 a1_1 _ _ l1_2 a2 true _ ?side1 ?side2 ?side3 ?side4 A9.out).mono ?_); (case side1 => repeat (first | exact (Kd.C_below HR0_2.out HB.out) | (with_reducible refine zI ?_ _) | (with_reducible refine zH ?_ _) | (with_reducible refine zJ ?_))); (case side2 => exact HC0_2.out); (case side3 => repeat (first | exact (Kd.C_below HR1_2.out HB.out) | (with_reducible refine zI ?_ _) | (with_reducible refine zH ?_ _) | (with_reducible refine zJ ?_))); (case side4 => exact HC1_2.out); rintro e w18 ⟨rfl, hb⟩; refine ⟨_, rfl, ?_⟩; have n0_ := zA (zU (g := gb266) (o := .cells #[.int .i64 a0_0, .int .i64 a0_1, .slice A0_2 l0_2.length c0_2] 26 (0, 0)) (bA_ BK266) hb); have n1_ := zA (zU (g := gb267) (o := .cells #[.int .i64 a1_0, .int .i64 a1_1, .slice A1_2 l1_2.length c1_2] 26 (0, 0)) (bA_ BK267) hb); have n2_ := zA (zU (g := gb268) (o := .cells #[.int .i64 a2] 3 (0, 0)) (bA_ BK268) hb); have n3_ := zA (below_step (bB_ HB) hb); clear BK266; clear BK267; clear BK268; clear HB; have BK266 := n0_; have BK267 := n1_; have BK268 := n2_; have HB := n3_; clear n0_ n1_ n2_ n3_; (try clear hb); (try clear hb2); (try clear hk); (try clear hi)))
    go_meet
    case rel => exact ⟨_, (true), (by first | rfl | (simp; done) | (simp [*]; done)), H', ⟨by first | omega | exact Nat.le_refl _⟩, ⟨bA_ BK266⟩, ⟨bA_ BK267⟩, ⟨bA_ BK268⟩, ⟨bB_ HB⟩⟩
   ·rw [if_neg c11] at H
    have c11b0 : decide (a3 < 1) = false := decide_eq_false c11
    clear c11
    (first | rw [c11b0] | (simp only [i64_w, i32_w]; rw [c11b0]) | skip)
    have H' := zA H
    clear H
    have hnb19 := NB266_267.out
    have hnc19 := NB267_266.out
    have hnb20 := NB266_268.out
    have hnc20 := NB268_266.out
    have hcz21_0 : w8.cell? ⟨gb266, 0, none⟩ = some (.int .i64 a0_0) := (blk_cell BK266.out 0).trans rfl
    have hcz21_1 : w8.cell? ⟨gb266, 1, none⟩ = some (.int .i64 a0_1) := (blk_cell BK266.out 1).trans rfl
    have hcz21_2 : w8.cell? ⟨gb266, 2, none⟩ = some (.slice A0_2 l0_2.length c0_2) := (blk_cell BK266.out 2).trans rfl
    have hfz21_0 := blk_frozen BK266.out 0
    have hfz21_1 := blk_frozen BK266.out 1
    have hfz21_2 := blk_frozen BK266.out 2
    have hnb22 := NB267_268.out
    have hnc22 := NB268_267.out
    have hcz23_0 : w8.cell? ⟨gb267, 0, none⟩ = some (.int .i64 a1_0) := (blk_cell BK267.out 0).trans rfl
    have hcz23_1 : w8.cell? ⟨gb267, 1, none⟩ = some (.int .i64 a1_1) := (blk_cell BK267.out 1).trans rfl
    have hcz23_2 : w8.cell? ⟨gb267, 2, none⟩ = some (.slice A1_2 l1_2.length c1_2) := (blk_cell BK267.out 2).trans rfl
    have hfz23_0 := blk_frozen BK267.out 0
    have hfz23_1 := blk_frozen BK267.out 1
    have hfz23_2 := blk_frozen BK267.out 2
    have hcz24_0 : w8.cell? ⟨gb268, 0, none⟩ = some (.int .i64 a2) := (blk_cell BK268.out 0).trans rfl
    have hfz24_0 := blk_frozen BK268.out 0
    go_wp2_with (first | ((with_reducible refine gate_callee (f := 60) rfl ?_); refine goesL_ (some 26) rfl rfl Try.func60 (by kernel_rfl) rfl #[.agg #[.int .i64 a0_0, .int .i64 a0_1, .slice A0_2 l0_2.length c0_2], .agg #[.int .i64 a1_0, .int .i64 a1_1, .slice A1_2 l1_2.length c1_2], .int .i64 a2] rfl (by (try simp only [List.map_toArray, List.map_cons, List.map_nil]); first | done | rfl | (simp only [List.length_drop, List.length_take]; rfl)) ?_; (with_reducible refine (impl_millOK.calls k a0_0 a0_1 _ _ l0_2 a1_0 a1_1 _ _ l1_2 a2 true _ ?side1 ?side2 ?side3 ?side4 A9.out).mono ?_); (case side1 => repeat (first | exact (Kd.C_below HR0_2.out HB.out) | (with_reducible refine zI ?_ _) | (with_reducible refine zH ?_ _) | (with_reducible refine zJ ?_))); (case side2 => exact HC0_2.out); (case side3 => repeat (first | exact (Kd.C_below HR1_2.out HB.out) | (with_reducible refine zI ?_ _) | (with_reducible refine zH ?_ _) | (with_reducible refine zJ ?_))); (case side4 => exact HC1_2.out); rintro e w25 ⟨rfl, hb⟩; refine ⟨_, rfl, ?_⟩; have n0_ := zA (zU (g := gb266) (o := .cells #[.int .i64 a0_0, .int .i64 a0_1, .slice A0_2 l0_2.length c0_2] 26 (0, 0)) (bA_ BK266) hb); have n1_ := zA (zU (g := gb267) (o := .cells #[.int .i64 a1_0, .int .i64 a1_1, .slice A1_2 l1_2.length c1_2] 26 (0, 0)) (bA_ BK267) hb); have n2_ := zA (zU (g := gb268) (o := .cells #[.int .i64 a2] 3 (0, 0)) (bA_ BK268) hb); have n3_ := zA (below_step (bB_ HB) hb); clear BK266; clear BK267; clear BK268; clear HB; have BK266 := n0_; have BK267 := n1_; have BK268 := n2_; have HB := n3_; clear n0_ n1_ n2_ n3_; (try clear hb); (try clear hb2); (try clear hk); (try clear hi)))
    go_meet
    case rel => exact ⟨_, (decide (a3 > 24)), (by first | rfl | (simp; done) | (simp [*]; done)), H', ⟨by first | omega | exact Nat.le_refl _⟩, ⟨bA_ BK266⟩, ⟨bA_ BK267⟩, ⟨bA_ BK268⟩, ⟨bB_ HB⟩⟩
  ·replace c10 := Bool.eq_false_iff.mpr c10
   subst c10
   have H1 : (impl_Zigzag.j0 k a3 true a0_0 a0_1 l0_2 a1_0 a1_1 l1_2 a2) = some (r1, r2) := by rw [if_neg (show ¬ (false = true) by decide)] at H; exact H
   clear H
   have H := H1
   clear H1
   have H' := zA H
   clear H
   have hnb26 := NB266_267.out
   have hnc26 := NB267_266.out
   have hnb27 := NB266_268.out
   have hnc27 := NB268_266.out
   have hcz28_0 : w8.cell? ⟨gb266, 0, none⟩ = some (.int .i64 a0_0) := (blk_cell BK266.out 0).trans rfl
   have hcz28_1 : w8.cell? ⟨gb266, 1, none⟩ = some (.int .i64 a0_1) := (blk_cell BK266.out 1).trans rfl
   have hcz28_2 : w8.cell? ⟨gb266, 2, none⟩ = some (.slice A0_2 l0_2.length c0_2) := (blk_cell BK266.out 2).trans rfl
   have hfz28_0 := blk_frozen BK266.out 0
   have hfz28_1 := blk_frozen BK266.out 1
   have hfz28_2 := blk_frozen BK266.out 2
   have hnb29 := NB267_268.out
   have hnc29 := NB268_267.out
   have hcz30_0 : w8.cell? ⟨gb267, 0, none⟩ = some (.int .i64 a1_0) := (blk_cell BK267.out 0).trans rfl
   have hcz30_1 : w8.cell? ⟨gb267, 1, none⟩ = some (.int .i64 a1_1) := (blk_cell BK267.out 1).trans rfl
   have hcz30_2 : w8.cell? ⟨gb267, 2, none⟩ = some (.slice A1_2 l1_2.length c1_2) := (blk_cell BK267.out 2).trans rfl
   have hfz30_0 := blk_frozen BK267.out 0
   have hfz30_1 := blk_frozen BK267.out 1
   have hfz30_2 := blk_frozen BK267.out 2
   have hcz31_0 : w8.cell? ⟨gb268, 0, none⟩ = some (.int .i64 a2) := (blk_cell BK268.out 0).trans rfl
   have hfz31_0 := blk_frozen BK268.out 0
   go_wp2_with (first | ((with_reducible refine gate_callee (f := 60) rfl ?_); refine goesL_ (some 26) rfl rfl Try.func60 (by kernel_rfl) rfl #[.agg #[.int .i64 a0_0, .int .i64 a0_1, .slice A0_2 l0_2.length c0_2], .agg #[.int .i64 a1_0, .int .i64 a1_1, .slice A1_2 l1_2.length c1_2], .int .i64 a2] rfl (by (try simp only [List.map_toArray, List.map_cons, List.map_nil]); first | done | rfl | (simp only [List.length_drop, List.length_take]; rfl)) ?_; (with_reducible refine (impl_millOK.calls k a0_0 a0_1 _ _ l0_2 a1_0 a1_1 _ _ l1_2 a2 false _ ?side1 ?side2 ?side3 ?side4 A9.out).mono ?_); (case side1 => repeat (first | exact (Kd.C_below HR0_2.out HB.out) | (with_reducible refine zI ?_ _) | (with_reducible refine zH ?_ _) | (with_reducible refine zJ ?_))); (case side2 => exact HC0_2.out); (case side3 => repeat (first | exact (Kd.C_below HR1_2.out HB.out) | (with_reducible refine zI ?_ _) | (with_reducible refine zH ?_ _) | (with_reducible refine zJ ?_))); (case side4 => exact HC1_2.out); rintro e w32 ⟨rfl, hb⟩; refine ⟨_, rfl, ?_⟩; have n0_ := zA (zU (g := gb266) (o := .cells #[.int .i64 a0_0, .int .i64 a0_1, .slice A0_2 l0_2.length c0_2] 26 (0, 0)) (bA_ BK266) hb); have n1_ := zA (zU (g := gb267) (o := .cells #[.int .i64 a1_0, .int .i64 a1_1, .slice A1_2 l1_2.length c1_2] 26 (0, 0)) (bA_ BK267) hb); have n2_ := zA (zU (g := gb268) (o := .cells #[.int .i64 a2] 3 (0, 0)) (bA_ BK268) hb); have n3_ := zA (below_step (bB_ HB) hb); clear BK266; clear BK267; clear BK268; clear HB; have BK266 := n0_; have BK267 := n1_; have BK268 := n2_; have HB := n3_; clear n0_ n1_ n2_ n3_; (try clear hb); (try clear hb2); (try clear hk); (try clear hi)))
   go_meet
   case rel => exact ⟨_, (true), (by first | rfl | (simp; done) | (simp [*]; done)), H', ⟨by first | omega | exact Nat.le_refl _⟩, ⟨bA_ BK266⟩, ⟨bA_ BK267⟩, ⟨bA_ BK268⟩, ⟨bB_ HB⟩⟩
 case rest =>
  clear HC5
  try clear c1
  try clear c2
  try clear p2
  try clear c6
  try clear c10
  try clear c11
  try clear c11b0
  try clear c12
  try clear c13
  try clear c15
  try clear c19
  try clear c20
  try clear c22
  try clear c26
  try clear c27
  try clear c28
  try clear c29
  try clear hcz14_0
  try clear hcz14_1
  try clear hcz14_2
  try clear hcz16_0
  try clear hcz16_1
  try clear hcz16_2
  try clear hcz17_0
  try clear hcz21_0
  try clear hcz21_1
  try clear hcz21_2
  try clear hcz23_0
  try clear hcz23_1
  try clear hcz23_2
  try clear hcz24_0
  try clear hcz28_0
  try clear hcz28_1
  try clear hcz28_2
  try clear hcz30_0
  try clear hcz30_1
  try clear hcz30_2
  try clear hcz31_0
  try clear hfz14_0
  try clear hfz14_1
  try clear hfz14_2
  try clear hfz16_0
  try clear hfz16_1
  try clear hfz16_2
  try clear hfz17_0
  try clear hfz21_0
  try clear hfz21_1
  try clear hfz21_2
  try clear hfz23_0
  try clear hfz23_1
  try clear hfz23_2
  try clear hfz24_0
  try clear hfz28_0
  try clear hfz28_1
  try clear hfz28_2
  try clear hfz30_0
  try clear hfz30_1
  try clear hfz30_2
  try clear hfz31_0
  obtain ⟨kq, x35_4, rfl, HA, HJ4, BK266, BK267, BK268, HB⟩ := hcut
  cases kq with
  | zero => exact absurd HA.out (by simp [impl_Zigzag.j0])
  | succ kj4 =>
   have H := HA.out
   clear HA
   simp only [impl_Zigzag.j0] at H
   by_cases c33 : x35_4 = true
   ·subst c33
    have H1 : (some (([] : List (S61)), 1)) = some (r1, r2) := by rw [if_pos rfl] at H; exact H
    clear H
    have H := H1
    clear H1
    simp only [Option.some.injEq, Prod.mk.injEq] at H
    obtain ⟨rfl, rfl⟩ := H
    go_wp2
    go_ret2
    exact ⟨_, by first | rfl | (simp [errW_none, errW_some] <;> rfl) | (simp [*, errW_none, errW_some] <;> rfl), by first | exact Kd.R_nil _ _ _ _ _ | exact Kd.N_nil _ _ _ _ _ | exact Kd.V_nil _ _ _ _ _ | exact Kd.Q_nil _ _ _ _ _ | exact Kd.S_nil _ _ _ _ _, bB_ HB⟩
   ·replace c33 := Bool.eq_false_iff.mpr c33
    subst c33
    have H1 : ((impl_lowest.f kj4 a1_0 a1_1 l1_2 a2).bind fun t270 => (if ([] : List Int).length + l0_2.length < 17592186044416 then (impl_Zigzag.l0 kj4 a3 t270 [] (wrap64 (24 - a3)) a1_0 a1_1 l1_2 a2 (([] : List Int) ++ l0_2) (([(⟨true, 0, 0, 24⟩ : S61)] : List (S61))) 0) else (none))) = some (r1, r2) := by rw [if_neg (show ¬ (false = true) by decide)] at H; exact H
    clear H
    have H := H1
    clear H1
    replace H := Option.bind_eq_some_iff.mp H
    obtain ⟨t270, A340, H⟩ := H
    replace H : (if ([] : List Int).length + l0_2.length < 17592186044416 then (impl_Zigzag.l0 kj4 a3 t270 [] (wrap64 (24 - a3)) a1_0 a1_1 l1_2 a2 (([] : List Int) ++ l0_2) (([(⟨true, 0, 0, 24⟩ : S61)] : List (S61))) 0) else (none)) = some (r1, r2) := H
    have A34 := zA A340
    clear A340
    by_cases c35 : ([] : List Int).length + l0_2.length < 17592186044416
    ·rw [if_pos c35] at H
     have LMc35 := zA c35
     clear c35
     obtain ⟨y273, hy273⟩ : ∃ y_ : List Int, y_ = (([] : List Int) ++ l0_2) := ⟨_, rfl⟩
     replace H : (impl_Zigzag.l0 kj4 a3 t270 [] (wrap64 (24 - a3)) a1_0 a1_1 l1_2 a2 y273 (([(⟨true, 0, 0, 24⟩ : S61)] : List (S61))) 0) = some (r1, r2) := by first | (rw [hy273]; with_reducible exact H) | (have H2_ := (Option.bind_some _ _).symm.trans H; rw [hy273]; with_reducible exact H2_) | (have H2_ := (Option.bind_some _ _).symm.trans H; with_reducible exact H2_) | with_reducible exact H | (rw [hy273]; exact H) | exact H
     have Ny273 := zA hy273
     clear hy273
     obtain ⟨y277, hy277⟩ : ∃ y_ : List (S61), y_ = (([(⟨true, 0, 0, 24⟩ : S61)] : List (S61))) := ⟨_, rfl⟩
     replace H : (impl_Zigzag.l0 kj4 a3 t270 [] (wrap64 (24 - a3)) a1_0 a1_1 l1_2 a2 y273 y277 0) = some (r1, r2) := by first | (rw [hy277]; with_reducible exact H) | (have H2_ := (Option.bind_some _ _).symm.trans H; rw [hy277]; with_reducible exact H2_) | (have H2_ := (Option.bind_some _ _).symm.trans H; with_reducible exact H2_) | with_reducible exact H | (rw [hy277]; exact H) | exact H
     have Ny277 := zA hy277
     clear hy277
     have H' := zA H
     clear H
     have hnb36 := NB267_266.out
     have hnc36 := NB266_267.out
     have hnb37 := NB267_268.out
     have hnc37 := NB268_267.out
     have hcz38_0 : wc.cell? ⟨gb267, 0, none⟩ = some (.int .i64 a1_0) := (blk_cell BK267.out 0).trans rfl
     have hcz38_1 : wc.cell? ⟨gb267, 1, none⟩ = some (.int .i64 a1_1) := (blk_cell BK267.out 1).trans rfl
     have hcz38_2 : wc.cell? ⟨gb267, 2, none⟩ = some (.slice A1_2 l1_2.length c1_2) := (blk_cell BK267.out 2).trans rfl
     have hfz38_0 := blk_frozen BK267.out 0
     have hfz38_1 := blk_frozen BK267.out 1
     have hfz38_2 := blk_frozen BK267.out 2
     have hnb39 := NB268_266.out
     have hnc39 := NB266_268.out
     have hcz40_0 : wc.cell? ⟨gb268, 0, none⟩ = some (.int .i64 a2) := (blk_cell BK268.out 0).trans rfl
     have hfz40_0 := blk_frozen BK268.out 0
     go_wp2_with (first | ((with_reducible refine gate_callee (f := 46) rfl ?_); refine goesL_ (some 38) rfl rfl Try.func46 (by kernel_rfl) rfl #[.agg #[.int .i64 a1_0, .int .i64 a1_1, .slice A1_2 l1_2.length c1_2], .int .i64 a2] rfl (by (try simp only [List.map_toArray, List.map_cons, List.map_nil]); first | done | rfl | (simp only [List.length_drop, List.length_take]; rfl)) ?_; (with_reducible refine (impl_lowest.calls kj4 a1_0 a1_1 _ _ l1_2 a2 t270 _ ?side1 ?side2 A34.out).mono ?_); (case side1 => repeat (first | exact (Kd.C_below HR1_2.out HB.out) | (with_reducible refine zI ?_ _) | (with_reducible refine zH ?_ _) | (with_reducible refine zJ ?_))); (case side2 => exact HC1_2.out); rintro e w41 ⟨v271, rfl, ho0, hb⟩; refine ⟨_, rfl, ?_⟩; have NRR := zA (fun e_ : some gb268 = v271.ownBlock => Nat.lt_irrefl _ (Nat.lt_of_lt_of_le (blk_lt (bA_ BK268)) (Kd.R_base ho0 gb268 e_.symm))); have n0_ := zA (Kd.R_lower ho0 (zT (bB_ HB))); have n1_ := zA (zU (g := gb266) (o := .cells #[.int .i64 a0_0, .int .i64 a0_1, .slice A0_2 l0_2.length c0_2] 26 (0, 0)) (bA_ BK266) hb); have n2_ := zA (zU (g := gb267) (o := .cells #[.int .i64 a1_0, .int .i64 a1_1, .slice A1_2 l1_2.length c1_2] 26 (0, 0)) (bA_ BK267) hb); have n3_ := zA (zU (g := gb268) (o := .cells #[.int .i64 a2] 3 (0, 0)) (bA_ BK268) hb); have n4_ := zA (below_step (bB_ HB) hb); clear BK266; clear BK267; clear BK268; clear HB; have HO272 := n0_; have BK266 := n1_; have BK267 := n2_; have BK268 := n3_; have HB := n4_; clear n0_ n1_ n2_ n3_ n4_; (try clear hb); (try clear hb2); (try clear hk); (try clear hi); (try clear ho0); have hcz42_0 : w41.cell? ⟨gb266, 0, none⟩ = some (.int .i64 a0_0) := (blk_cell BK266.out 0).trans rfl; have hcz42_1 : w41.cell? ⟨gb266, 1, none⟩ = some (.int .i64 a0_1) := (blk_cell BK266.out 1).trans rfl; have hcz42_2 : w41.cell? ⟨gb266, 2, none⟩ = some (.slice A0_2 l0_2.length c0_2) := (blk_cell BK266.out 2).trans rfl; have hfz42_0 := blk_frozen BK266.out 0; have hfz42_1 := blk_frozen BK266.out 1; have hfz42_2 := blk_frozen BK266.out 2) | ((with_reducible refine gate_builtin (b := .append) (xs := #[.const (.slice none 0 0), .tmp 40]) rfl ?_); at_builtin; refine Kd.R_append_rows (Kd.int .i64) (w0 := w) w.heap.size rfl (.const (.slice none 0 0)) (.tmp 40) 22 3 (.int .i64 0) 8 rfl Try.underlying22 info3 rfl (by decide) (by omega) (.slice none 0 0) ([] : List Int) l0_2 _ _ _ (fun k_ => some k_ ≠ (v271 : Value).ownBlock ∧ k_ ≠ gb268) (fun _ => False) rfl rfl ?aO ?aR (fun _ _ h => h) (fun _ h => h.elim) ?aF ?aB ?aS ?aL ?_; (case aR => repeat (first | exact (Kd.C_below HR0_2.out HB.out) | (with_reducible refine zI ?_ _) | (with_reducible refine zH ?_ _) | (with_reducible refine zJ ?_))); (case aB => exact (bB_ HB)); (case aF => exact (fun k_ hk => ⟨Kd.fresh' (Kd.R_lt (bC_ HO272)) k_ hk, Nat.ne_of_gt (Nat.lt_of_lt_of_le (blk_lt (bA_ BK268)) hk)⟩)); (case aO => exact ((Kd.R_nil _ _ _ _ (fun k_ => some k_ ≠ (v271 : Value).ownBlock ∧ k_ ≠ gb268)))); (case aS => exact (zT (bB_ HB))); (case aL => have := LMc35.out; omega); intro v274 w43 ho hb hg hat; rw [← Ny273.out] at ho; have HYR := zA (fun e_ : some gb268 = v274.ownBlock => (ho.1 gb268 e_.symm).2 rfl); replace ho := Kd.R_mono ho (fun _ hk => hk.1); have n0_ := zA (blk_grown (g := gb266) (o := .cells #[.int .i64 a0_0, .int .i64 a0_1, .slice A0_2 l0_2.length c0_2] 26 (0, 0)) (bA_ BK266) hg (by simp [Value.ownBlock])); have n1_ := zA (blk_grown (g := gb267) (o := .cells #[.int .i64 a1_0, .int .i64 a1_1, .slice A1_2 l1_2.length c1_2] 26 (0, 0)) (bA_ BK267) hg (by simp [Value.ownBlock])); have n2_ := zA (blk_grown (g := gb268) (o := .cells #[.int .i64 a2] 3 (0, 0)) (bA_ BK268) hg (by simp [Value.ownBlock])); have n3_ := zA (Kd.R_after (Kd.R_apart_nil (bC_ HO272)) hg hat); have n4_ := zA (hb); have n5_ := zA (ho); clear BK266; clear BK267; clear BK268; clear HO272; clear HB; have BK266 := n0_; have BK267 := n1_; have BK268 := n2_; have HO272 := n3_; have HB := n4_; have HO275 := n5_; clear n0_ n1_ n2_ n3_ n4_ n5_; clear ho hb hg hat) | ((with_reducible refine gate_dst (N := 11) rfl ?_); refine box_event ?hg (N := 11) ?hd (cs := #[.slice none 0 0]) (t := 22) ?hr ?_; (case hd => rfl); (case hg => rfl); (case hr => first | (go_simp; done) | (go_simp; rfl)); intro gb276 hg w44 hbox hb; have n0_ := zA (zL (bC_ HO272) hb); have n1_ := zA (zL (bC_ HO275) hb); have n2_ := zA (zU (g := gb266) (o := .cells #[.int .i64 a0_0, .int .i64 a0_1, .slice A0_2 l0_2.length c0_2] 26 (0, 0)) (bA_ BK266) hb); have n3_ := zA (zU (g := gb267) (o := .cells #[.int .i64 a1_0, .int .i64 a1_1, .slice A1_2 l1_2.length c1_2] 26 (0, 0)) (bA_ BK267) hb); have n4_ := zA (zU (g := gb268) (o := .cells #[.int .i64 a2] 3 (0, 0)) (bA_ BK268) hb); have n5_ := zA (below_step (bB_ HB) hb); have n6_ := zA (hbox); have n7_ := zA ((by rw [hg]; exact (zT (bB_ HB)) : w.heap.size ≤ gb276)); have n8_ := zA ((by rw [hg]; exact (zT (bB_ HB)) : w.heap.size ≤ gb276)); have n9_ := zA ((by rw [hg]; exact Nat.ne_of_lt (blk_lt (g := gb266) (o := .cells #[.int .i64 a0_0, .int .i64 a0_1, .slice A0_2 l0_2.length c0_2] 26 (0, 0)) (bA_ BK266)) : gb266 ≠ gb276)); have n10_ := zA ((by rw [hg]; exact Nat.ne_of_gt (blk_lt (g := gb266) (o := .cells #[.int .i64 a0_0, .int .i64 a0_1, .slice A0_2 l0_2.length c0_2] 26 (0, 0)) (bA_ BK266)) : gb276 ≠ gb266)); have n11_ := zA ((by rw [hg]; exact Nat.ne_of_lt (blk_lt (g := gb267) (o := .cells #[.int .i64 a1_0, .int .i64 a1_1, .slice A1_2 l1_2.length c1_2] 26 (0, 0)) (bA_ BK267)) : gb267 ≠ gb276)); have n12_ := zA ((by rw [hg]; exact Nat.ne_of_gt (blk_lt (g := gb267) (o := .cells #[.int .i64 a1_0, .int .i64 a1_1, .slice A1_2 l1_2.length c1_2] 26 (0, 0)) (bA_ BK267)) : gb276 ≠ gb267)); have n13_ := zA ((by rw [hg]; exact Nat.ne_of_lt (blk_lt (g := gb268) (o := .cells #[.int .i64 a2] 3 (0, 0)) (bA_ BK268)) : gb268 ≠ gb276)); have n14_ := zA ((by rw [hg]; exact Nat.ne_of_gt (blk_lt (g := gb268) (o := .cells #[.int .i64 a2] 3 (0, 0)) (bA_ BK268)) : gb276 ≠ gb268)); clear HO272; clear HO275; clear BK266; clear BK267; clear BK268; clear HB; have HO272 := n0_; have HO275 := n1_; have BK266 := n2_; have BK267 := n3_; have BK268 := n4_; have HB := n5_; have BK276 := n6_; have GW276 := n7_; have GE276 := n8_; have NB266_276 := n9_; have NB276_266 := n10_; have NB267_276 := n11_; have NB276_267 := n12_; have NB268_276 := n13_; have NB276_268 := n14_; clear n0_ n1_ n2_ n3_ n4_ n5_ n6_ n7_ n8_ n9_ n10_ n11_ n12_ n13_ n14_; clear hb hbox hg; obtain ⟨Ao45, co45, eo45⟩ := Kd.R_slice HO275.out; subst eo45; have hnb46 := NB276_266.out; have hnc46 := NB266_276.out; have hnb47 := NB276_267.out; have hnc47 := NB267_276.out; have hnb48 := NB276_268.out; have hnc48 := NB268_276.out; have hcz49_0 : w44.cell? ⟨gb276, 0, none⟩ = some (.slice none 0 0) := (blk_cell BK276.out 0).trans rfl; have hfz49_0 := blk_frozen BK276.out 0) | ((with_reducible refine gate_dst (N := 43) rfl ?_); refine Kd.R_lit k61 _ 61 ?hg (N := 43) ?hd (xs := ([(⟨true, 0, 0, 24⟩ : S61)] : List (S61))) (inner := [.bool true, .int .i64 0, .int .i64 0, .int .i64 24]) (ok := fun _ => True) (okp := fun _ => True) ?hr ?hp (fun _ hk => hk) trivial (Below.refl _ _) (Nat.le_refl _) (by simp) ?_; (case hd => rfl); (case hg => rfl); (case hr => first | (go_simp; done) | (go_simp; rfl)); (case hp => exact (Reps.c4 (show Kd.M k61 _ _ _ (⟨true, 0, 0, 24⟩ : S61) [.bool true, .int .i64 0, .int .i64 0, .int .i64 24] from (k61_mkM _ _ _ (⟨true, 0, 0, 24⟩ : S61) )) (Reps.none _ _))); intro v278 w50 ho51 hb hg_ hnew_; clear hg_ hnew_; (first | rw [← Ny277.out] at ho51 | (simp only [Int.reduceToNat] at ho51; rw [← Ny277.out] at ho51)); have n0_ := zA (zL (by (with_reducible repeat (first | apply zF | apply zE | apply zG)); exact (Kd.R_mono (Kd.R_far (p := ⟨gb276, 0, none⟩) (Kd.R_types HO272.out BK276.out (by decide)) (fun _ hk => hk.2) (.slice Ao45 y273.length co45)) (fun _ h_ => h_.1))) hb); have n1_ := zA (zL (by (with_reducible repeat (first | apply zF | apply zE | apply zG)); exact (Kd.R_mono (Kd.R_far (p := ⟨gb276, 0, none⟩) (Kd.R_types HO275.out BK276.out (by decide)) (fun _ hk => hk.2) (.slice Ao45 y273.length co45)) (fun _ h_ => h_.1))) hb); have n2_ := zA (Kd.R_lower ho51 (zT (bB_ HB))); have n3_ := zA (zU (g := gb266) (o := .cells #[.int .i64 a0_0, .int .i64 a0_1, .slice A0_2 l0_2.length c0_2] 26 (0, 0)) (bD_ BK266) hb); have n4_ := zA (zU (g := gb267) (o := .cells #[.int .i64 a1_0, .int .i64 a1_1, .slice A1_2 l1_2.length c1_2] 26 (0, 0)) (bD_ BK267) hb); have n5_ := zA (zU (g := gb268) (o := .cells #[.int .i64 a2] 3 (0, 0)) (bD_ BK268) hb); have n6_ := zA (zU (g := gb276) (o := .cells #[.slice Ao45 y273.length co45] 22 (0, 0)) (by (with_reducible repeat (first | refine zM ?_ _ | refine zN ?_ | refine zO ?_ _)); refine blk_put (cs := #[.slice none 0 0]) ?_ 0 _ rfl; (with_reducible repeat (first | refine zM ?_ _ | refine zN ?_ | refine zO ?_ _)); exact BK276.out) hb); have n7_ := zA (below_step (bB_ HB) hb); clear HO272; clear HO275; clear BK266; clear BK267; clear BK268; clear BK276; clear HB; have HO272 := n0_; have HO275 := n1_; have HO279 := n2_; have BK266 := n3_; have BK267 := n4_; have BK268 := n5_; have BK276 := n6_; have HB := n7_; clear n0_ n1_ n2_ n3_ n4_ n5_ n6_ n7_; clear hb ho51) | ((with_reducible refine gate_dst (N := 12) rfl ?_); refine box_event ?hg (N := 12) ?hd (cs := #[.slice none 0 0]) (t := 47) ?hr ?_; (case hd => rfl); (case hg => rfl); (case hr => first | (go_simp; done) | (go_simp; rfl)); intro gb280 hg w52 hbox hb; have n0_ := zA (zL (bC_ HO272) hb); have n1_ := zA (zL (bC_ HO275) hb); have n2_ := zA (zL (bC_ HO279) hb); have n3_ := zA (zU (g := gb266) (o := .cells #[.int .i64 a0_0, .int .i64 a0_1, .slice A0_2 l0_2.length c0_2] 26 (0, 0)) (bA_ BK266) hb); have n4_ := zA (zU (g := gb267) (o := .cells #[.int .i64 a1_0, .int .i64 a1_1, .slice A1_2 l1_2.length c1_2] 26 (0, 0)) (bA_ BK267) hb); have n5_ := zA (zU (g := gb268) (o := .cells #[.int .i64 a2] 3 (0, 0)) (bA_ BK268) hb); have n6_ := zA (zU (g := gb276) (o := .cells #[.slice Ao45 y273.length co45] 22 (0, 0)) (bA_ BK276) hb); have n7_ := zA (below_step (bB_ HB) hb); have n8_ := zA (hbox); have n9_ := zA ((by rw [hg]; exact (zT (bB_ HB)) : w.heap.size ≤ gb280)); have n10_ := zA ((by rw [hg]; exact (zT (bB_ HB)) : w.heap.size ≤ gb280)); have n11_ := zA ((by rw [hg]; exact Nat.ne_of_lt (blk_lt (g := gb266) (o := .cells #[.int .i64 a0_0, .int .i64 a0_1, .slice A0_2 l0_2.length c0_2] 26 (0, 0)) (bA_ BK266)) : gb266 ≠ gb280)); have n12_ := zA ((by rw [hg]; exact Nat.ne_of_gt (blk_lt (g := gb266) (o := .cells #[.int .i64 a0_0, .int .i64 a0_1, .slice A0_2 l0_2.length c0_2] 26 (0, 0)) (bA_ BK266)) : gb280 ≠ gb266)); have n13_ := zA ((by rw [hg]; exact Nat.ne_of_lt (blk_lt (g := gb267) (o := .cells #[.int .i64 a1_0, .int .i64 a1_1, .slice A1_2 l1_2.length c1_2] 26 (0, 0)) (bA_ BK267)) : gb267 ≠ gb280)); have n14_ := zA ((by rw [hg]; exact Nat.ne_of_gt (blk_lt (g := gb267) (o := .cells #[.int .i64 a1_0, .int .i64 a1_1, .slice A1_2 l1_2.length c1_2] 26 (0, 0)) (bA_ BK267)) : gb280 ≠ gb267)); have n15_ := zA ((by rw [hg]; exact Nat.ne_of_lt (blk_lt (g := gb268) (o := .cells #[.int .i64 a2] 3 (0, 0)) (bA_ BK268)) : gb268 ≠ gb280)); have n16_ := zA ((by rw [hg]; exact Nat.ne_of_gt (blk_lt (g := gb268) (o := .cells #[.int .i64 a2] 3 (0, 0)) (bA_ BK268)) : gb280 ≠ gb268)); have n17_ := zA ((by rw [hg]; exact Nat.ne_of_lt (blk_lt (g := gb276) (o := .cells #[.slice Ao45 y273.length co45] 22 (0, 0)) (bA_ BK276)) : gb276 ≠ gb280)); have n18_ := zA ((by rw [hg]; exact Nat.ne_of_gt (blk_lt (g := gb276) (o := .cells #[.slice Ao45 y273.length co45] 22 (0, 0)) (bA_ BK276)) : gb280 ≠ gb276)); clear HO272; clear HO275; clear HO279; clear BK266; clear BK267; clear BK268; clear BK276; clear HB; have HO272 := n0_; have HO275 := n1_; have HO279 := n2_; have BK266 := n3_; have BK267 := n4_; have BK268 := n5_; have BK276 := n6_; have HB := n7_; have BK280 := n8_; have GW280 := n9_; have GE280 := n10_; have NB266_280 := n11_; have NB280_266 := n12_; have NB267_280 := n13_; have NB280_267 := n14_; have NB268_280 := n15_; have NB280_268 := n16_; have NB276_280 := n17_; have NB280_276 := n18_; clear n0_ n1_ n2_ n3_ n4_ n5_ n6_ n7_ n8_ n9_ n10_ n11_ n12_ n13_ n14_ n15_ n16_ n17_ n18_; clear hb hbox hg; obtain ⟨Ao53, co53, eo53⟩ := Kd.R_slice HO279.out; subst eo53; have hnb54 := NB280_266.out; have hnc54 := NB266_280.out; have hnb55 := NB280_267.out; have hnc55 := NB267_280.out; have hnb56 := NB280_268.out; have hnc56 := NB268_280.out; have hnb57 := NB280_276.out; have hnc57 := NB276_280.out; have hcz58_0 : w52.cell? ⟨gb280, 0, none⟩ = some (.slice none 0 0) := (blk_cell BK280.out 0).trans rfl; have hfz58_0 := blk_frozen BK280.out 0) | ((with_reducible refine gate_dst (N := 13) rfl ?_); refine box_event ?hg (N := 13) ?hd (cs := #[.int .i64 0]) (t := 3) ?hr ?_; (case hd => rfl); (case hg => rfl); (case hr => first | (go_simp; done) | (go_simp; rfl)); intro gb281 hg w59 hbox hb; have NRY := zA (Kd.fresh' (Kd.R_lt (by (with_reducible repeat (first | apply zF | apply zE | apply zG)); exact Kd.R_far (p := ⟨gb280, 0, none⟩) (Kd.R_types HO272.out BK280.out (by decide)) (fun _ hk => hk.2) _)) gb281 (Nat.le_of_eq hg.symm)); have HYY := zA (Kd.fresh' (Kd.R_lt (by (with_reducible repeat (first | apply zF | apply zE | apply zG)); exact Kd.R_far (p := ⟨gb280, 0, none⟩) (Kd.R_types HO275.out BK280.out (by decide)) (fun _ hk => hk.2) _)) gb281 (Nat.le_of_eq hg.symm)); have n0_ := zA (zL (by (with_reducible repeat (first | apply zF | apply zE | apply zG)); exact (Kd.R_mono (Kd.R_far (p := ⟨gb280, 0, none⟩) (Kd.R_types HO272.out BK280.out (by decide)) (fun _ hk => hk.2) (.slice Ao53 y277.length co53)) (fun _ h_ => h_.1))) hb); have n1_ := zA (zL (by (with_reducible repeat (first | apply zF | apply zE | apply zG)); exact (Kd.R_mono (Kd.R_far (p := ⟨gb280, 0, none⟩) (Kd.R_types HO275.out BK280.out (by decide)) (fun _ hk => hk.2) (.slice Ao53 y277.length co53)) (fun _ h_ => h_.1))) hb); have n2_ := zA (zL (by (with_reducible repeat (first | apply zF | apply zE | apply zG)); exact (Kd.R_mono (Kd.R_far (p := ⟨gb280, 0, none⟩) (Kd.R_types HO279.out BK280.out (by decide)) (fun _ hk => hk.2) (.slice Ao53 y277.length co53)) (fun _ h_ => h_.1))) hb); have n3_ := zA (zU (g := gb266) (o := .cells #[.int .i64 a0_0, .int .i64 a0_1, .slice A0_2 l0_2.length c0_2] 26 (0, 0)) (bD_ BK266) hb); have n4_ := zA (zU (g := gb267) (o := .cells #[.int .i64 a1_0, .int .i64 a1_1, .slice A1_2 l1_2.length c1_2] 26 (0, 0)) (bD_ BK267) hb); have n5_ := zA (zU (g := gb268) (o := .cells #[.int .i64 a2] 3 (0, 0)) (bD_ BK268) hb); have n6_ := zA (zU (g := gb276) (o := .cells #[.slice Ao45 y273.length co45] 22 (0, 0)) (bD_ BK276) hb); have n7_ := zA (zU (g := gb280) (o := .cells #[.slice Ao53 y277.length co53] 47 (0, 0)) (by (with_reducible repeat (first | refine zM ?_ _ | refine zN ?_ | refine zO ?_ _)); refine blk_put (cs := #[.slice none 0 0]) ?_ 0 _ rfl; (with_reducible repeat (first | refine zM ?_ _ | refine zN ?_ | refine zO ?_ _)); exact BK280.out) hb); have n8_ := zA (below_step (bB_ HB) hb); have n9_ := zA (hbox); have n10_ := zA ((by rw [hg]; exact (zT (bB_ HB)) : w.heap.size ≤ gb281)); have n11_ := zA ((by rw [hg]; exact (zT (bB_ HB)) : w.heap.size ≤ gb281)); have n12_ := zA ((by rw [hg]; exact Nat.ne_of_lt (blk_lt (g := gb266) (o := .cells #[.int .i64 a0_0, .int .i64 a0_1, .slice A0_2 l0_2.length c0_2] 26 (0, 0)) (bD_ BK266)) : gb266 ≠ gb281)); have n13_ := zA ((by rw [hg]; exact Nat.ne_of_gt (blk_lt (g := gb266) (o := .cells #[.int .i64 a0_0, .int .i64 a0_1, .slice A0_2 l0_2.length c0_2] 26 (0, 0)) (bD_ BK266)) : gb281 ≠ gb266)); have n14_ := zA ((by rw [hg]; exact Nat.ne_of_lt (blk_lt (g := gb267) (o := .cells #[.int .i64 a1_0, .int .i64 a1_1, .slice A1_2 l1_2.length c1_2] 26 (0, 0)) (bD_ BK267)) : gb267 ≠ gb281)); have n15_ := zA ((by rw [hg]; exact Nat.ne_of_gt (blk_lt (g := gb267) (o := .cells #[.int .i64 a1_0, .int .i64 a1_1, .slice A1_2 l1_2.length c1_2] 26 (0, 0)) (bD_ BK267)) : gb281 ≠ gb267)); have n16_ := zA ((by rw [hg]; exact Nat.ne_of_lt (blk_lt (g := gb268) (o := .cells #[.int .i64 a2] 3 (0, 0)) (bD_ BK268)) : gb268 ≠ gb281)); have n17_ := zA ((by rw [hg]; exact Nat.ne_of_gt (blk_lt (g := gb268) (o := .cells #[.int .i64 a2] 3 (0, 0)) (bD_ BK268)) : gb281 ≠ gb268)); have n18_ := zA ((by rw [hg]; exact Nat.ne_of_lt (blk_lt (g := gb276) (o := .cells #[.slice Ao45 y273.length co45] 22 (0, 0)) (bD_ BK276)) : gb276 ≠ gb281)); have n19_ := zA ((by rw [hg]; exact Nat.ne_of_gt (blk_lt (g := gb276) (o := .cells #[.slice Ao45 y273.length co45] 22 (0, 0)) (bD_ BK276)) : gb281 ≠ gb276)); have n20_ := zA ((by rw [hg]; exact Nat.ne_of_lt (blk_lt (g := gb280) (o := .cells #[.slice Ao53 y277.length co53] 47 (0, 0)) (by (with_reducible repeat (first | refine zM ?_ _ | refine zN ?_ | refine zO ?_ _)); refine blk_put (cs := #[.slice none 0 0]) ?_ 0 _ rfl; (with_reducible repeat (first | refine zM ?_ _ | refine zN ?_ | refine zO ?_ _)); exact BK280.out)) : gb280 ≠ gb281)); have n21_ := zA ((by rw [hg]; exact Nat.ne_of_gt (blk_lt (g := gb280) (o := .cells #[.slice Ao53 y277.length co53] 47 (0, 0)) (by (with_reducible repeat (first | refine zM ?_ _ | refine zN ?_ | refine zO ?_ _)); refine blk_put (cs := #[.slice none 0 0]) ?_ 0 _ rfl; (with_reducible repeat (first | refine zM ?_ _ | refine zN ?_ | refine zO ?_ _)); exact BK280.out)) : gb281 ≠ gb280)); clear HO272; clear HO275; clear HO279; clear BK266; clear BK267; clear BK268; clear BK276; clear BK280; clear HB; have HO272 := n0_; have HO275 := n1_; have HO279 := n2_; have BK266 := n3_; have BK267 := n4_; have BK268 := n5_; have BK276 := n6_; have BK280 := n7_; have HB := n8_; have BK281 := n9_; have GW281 := n10_; have GE281 := n11_; have NB266_281 := n12_; have NB281_266 := n13_; have NB267_281 := n14_; have NB281_267 := n15_; have NB268_281 := n16_; have NB281_268 := n17_; have NB276_281 := n18_; have NB281_276 := n19_; have NB280_281 := n20_; have NB281_280 := n21_; clear n0_ n1_ n2_ n3_ n4_ n5_ n6_ n7_ n8_ n9_ n10_ n11_ n12_ n13_ n14_ n15_ n16_ n17_ n18_ n19_ n20_ n21_; clear hb hbox hg; have hnb60 := NB281_266.out; have hnc60 := NB266_281.out; have hnb61 := NB281_267.out; have hnc61 := NB267_281.out; have hnb62 := NB281_268.out; have hnc62 := NB268_281.out; have hnb63 := NB281_276.out; have hnc63 := NB276_281.out; have hnb64 := NB281_280.out; have hnc64 := NB280_281.out; have hcz65_0 : w59.cell? ⟨gb281, 0, none⟩ = some (.int .i64 0) := (blk_cell BK281.out 0).trans rfl; have hfz65_0 := blk_frozen BK281.out 0) | ((with_reducible refine gate_ (Op.makeMap 81 none) rfl ?_); refine SeenInt.make_event rfl rfl ?_; intro BM hg wm hbox hb; have m0_ := zA (zL (by (with_reducible repeat (first | apply zF | apply zE | apply zG)); exact Kd.R_mono (Kd.R_far (p := ⟨gb281, 0, none⟩) (Kd.R_far1 HO272.out rfl NRY.out) (fun _ hk => hk.2) _) (fun _ hk => hk.1)) hb); have m1_ := zA (zL (by (with_reducible repeat (first | apply zF | apply zE | apply zG)); exact Kd.R_mono (Kd.R_far (p := ⟨gb281, 0, none⟩) (Kd.R_far1 HO275.out rfl HYY.out) (fun _ hk => hk.2) _) (fun _ hk => hk.1)) hb); have m2_ := zA (zL (by (with_reducible repeat (first | apply zF | apply zE | apply zG)); exact Kd.R_mono (Kd.R_far (p := ⟨gb281, 0, none⟩) (Kd.R_types HO279.out BK281.out (by decide)) (fun _ hk => hk.2) _) (fun _ hk => hk.1)) hb); have m3_ := zA (zU (g := gb266) (o := .cells #[.int .i64 a0_0, .int .i64 a0_1, .slice A0_2 l0_2.length c0_2] 26 (0, 0)) (by (with_reducible repeat (first | refine zM ?_ _ | refine zN ?_ | refine zO ?_ _)); exact blk_far BK266.out NB266_281.out _) hb); have m4_ := zA (zU (g := gb267) (o := .cells #[.int .i64 a1_0, .int .i64 a1_1, .slice A1_2 l1_2.length c1_2] 26 (0, 0)) (by (with_reducible repeat (first | refine zM ?_ _ | refine zN ?_ | refine zO ?_ _)); exact blk_far BK267.out NB267_281.out _) hb); have m5_ := zA (zU (g := gb268) (o := .cells #[.int .i64 a2] 3 (0, 0)) (by (with_reducible repeat (first | refine zM ?_ _ | refine zN ?_ | refine zO ?_ _)); exact blk_far BK268.out NB268_281.out _) hb); have m6_ := zA (zU (g := gb276) (o := .cells #[.slice Ao45 y273.length co45] 22 (0, 0)) (by (with_reducible repeat (first | refine zM ?_ _ | refine zN ?_ | refine zO ?_ _)); exact blk_far BK276.out NB276_281.out _) hb); have m7_ := zA (zU (g := gb280) (o := .cells #[.slice Ao53 y277.length co53] 47 (0, 0)) (by (with_reducible repeat (first | refine zM ?_ _ | refine zN ?_ | refine zO ?_ _)); exact blk_far BK280.out NB280_281.out _) hb); have m8_ := zA (zU (g := gb281) (o := .cells #[.int .i64 0] 3 (0, 0)) (by (with_reducible repeat (first | refine zM ?_ _ | refine zN ?_ | refine zO ?_ _)); exact blk_put BK281.out 0 _ rfl) hb); have m9_ := zA (below_step (bB_ HB) hb); have m10_ := zA (show w.heap.size ≤ BM from by rw [hg]; exact (zT (bB_ HB))); have m11_ := zA (int_made (P := Try.prog) (k := 3) (e := 4) hbox); clear HO272 HO275 HO279 BK266 BK267 BK268 BK276 BK280 BK281 HB; have HO272 := m0_; have HO275 := m1_; have HO279 := m2_; have BK266 := m3_; have BK267 := m4_; have BK268 := m5_; have BK276 := m6_; have BK280 := m7_; have BK281 := m8_; have HB := m9_; have HBM := m10_; have HMN := m11_; clear m0_ m1_ m2_ m3_ m4_ m5_ m6_ m7_ m8_ m9_ m10_ m11_; clear hb hbox hg))
     go_loopg [16] kj4 (fun kq v16 w' => ∃ (x10_2 : List Int) (x15_2 : List Int) (x16_2 : Int) (x277000_2 : List Int) (x281000_2 : List (S61)) (x282000_2 : Int) (u277000 : Value) (u281000 : Value), v16 = .int .i64 x16_2 ∧ Aside0 (impl_Zigzag.l0 kq a3 x10_2 x15_2 x16_2 a1_0 a1_1 l1_2 a2 x277000_2 x281000_2 x282000_2 = some (r1, r2)) ∧ Aside0 (kq ≤ kj4) ∧ Aside0 (Kd.R (Kd.int .i64) 3 w' w.heap.size (fun k_ => some k_ ≠ (u277000 : Value).ownBlock) v271 x10_2) ∧ Aside0 (Kd.R (Kd.int .i64) 3 w' w.heap.size (fun k_ => some k_ ≠ (v271 : Value).ownBlock) u277000 x277000_2) ∧ Aside0 (Kd.R k61 61 w' w.heap.size (fun _ => True) u281000 x281000_2) ∧ Aside0 (w'.heap[gb266]? = some (.cells #[.int .i64 a0_0, .int .i64 a0_1, (.slice A0_2 l0_2.length c0_2)] 26 (0, 0))) ∧ Aside0 (w'.heap[gb267]? = some (.cells #[.int .i64 a1_0, .int .i64 a1_1, (.slice A1_2 l1_2.length c1_2)] 26 (0, 0))) ∧ Aside0 (w'.heap[gb268]? = some (.cells #[.int .i64 a2] 3 (0, 0))) ∧ Aside0 (w'.heap[gb276]? = some (.cells #[u277000] 22 (0, 0))) ∧ Aside0 (w'.heap[gb280]? = some (.cells #[u281000] 47 (0, 0))) ∧ Aside0 (w'.heap[gb281]? = some (.cells #[.int .i64 x282000_2] 3 (0, 0))) ∧ Aside0 (some gb268 ≠ (u277000 : Value).ownBlock) ∧ Aside0 (some gb281 ≠ (u277000 : Value).ownBlock) ∧ Aside0 (IntAt Try.prog 3 4 BM x15_2 w') ∧ Aside0 (Below w.heap.size w w'))
     case atStart => exact ⟨(t270), [], (wrap64 (24 - a3)), (y273), (y277), (0), (.slice Ao45 y273.length co45), (.slice Ao53 y277.length co53), (by first | rfl | (simp; done) | (simp [*]; done)), H', ⟨Nat.le_refl _⟩, ⟨by (with_reducible repeat (first | apply zF | apply zE | apply zG)); exact Kd.R_mono HO272.out (fun _ hk => hk.2)⟩, ⟨bC_ HO275⟩, ⟨by (with_reducible repeat (first | apply zF | apply zE | apply zG)); exact Kd.R_mono HO279.out (fun _ _ => trivial)⟩, ⟨bA_ BK266⟩, ⟨bA_ BK267⟩, ⟨bA_ BK268⟩, ⟨bA_ BK276⟩, ⟨bA_ BK280⟩, ⟨bA_ BK281⟩, HYR, HYY, HMN, ⟨bB_ HB⟩⟩
     case round =>
      clear H'
      try clear c1
      try clear c2
      try clear p2
      try clear c3
      try clear c4
      try clear c5
      try clear c6
      try clear p6
      try clear c10
      try clear c11
      try clear c11b0
      try clear c12
      try clear c13
      try clear c15
      try clear c19
      try clear c20
      try clear c22
      try clear c26
      try clear c27
      try clear c28
      try clear c29
      try clear c33
      try clear c35
      try clear c36
      try clear c37
      try clear c39
      try clear c46
      try clear c47
      try clear c48
      try clear c54
      try clear c55
      try clear c56
      try clear c57
      try clear c60
      try clear c61
      try clear c62
      try clear c63
      try clear c64
      try clear p64
      try clear hcz14_0
      try clear hcz14_1
      try clear hcz14_2
      try clear hcz16_0
      try clear hcz16_1
      try clear hcz16_2
      try clear hcz17_0
      try clear hcz21_0
      try clear hcz21_1
      try clear hcz21_2
      try clear hcz23_0
      try clear hcz23_1
      try clear hcz23_2
      try clear hcz24_0
      try clear hcz28_0
      try clear hcz28_1
      try clear hcz28_2
      try clear hcz30_0
      try clear hcz30_1
      try clear hcz30_2
      try clear hcz31_0
      try clear hcz38_0
      try clear hcz38_1
      try clear hcz38_2
      try clear hcz40_0
      try clear hcz42_0
      try clear hcz42_1
      try clear hcz42_2
      try clear hcz49_0
      try clear hcz58_0
      try clear hcz65_0
      try clear hfz14_0
      try clear hfz14_1
      try clear hfz14_2
      try clear hfz16_0
      try clear hfz16_1
      try clear hfz16_2
      try clear hfz17_0
      try clear hfz21_0
      try clear hfz21_1
      try clear hfz21_2
      try clear hfz23_0
      try clear hfz23_1
      try clear hfz23_2
      try clear hfz24_0
      try clear hfz28_0
      try clear hfz28_1
      try clear hfz28_2
      try clear hfz30_0
      try clear hfz30_1
      try clear hfz30_2
      try clear hfz31_0
      try clear hfz38_0
      try clear hfz38_1
      try clear hfz38_2
      try clear hfz40_0
      try clear hfz42_0
      try clear hfz42_1
      try clear hfz42_2
      try clear hfz49_0
      try clear hfz58_0
      try clear hfz65_0
      try clear p2
      obtain ⟨x10_2, x15_2, x16_2, x277000_2, x281000_2, x282000_2, u277000, u281000, rfl, HA, HK2, HO_10, HO_277000, HO_281000, BK266, BK267, BK268, BK276, BK280, BK281, HYR, HYY, HMI, HB⟩ := hrel
      obtain ⟨om, hom, hos⟩ := HMI.out
      have BKM := zA hom
      have HS := zA hos
      clear hom hos HMI
      cases gk with
      | zero => exact absurd HA.out (by simp [impl_Zigzag.l0])
      | succ k2 =>
       have H := HA.out
       clear HA
       simp only [impl_Zigzag.l0] at H
       obtain ⟨ji66, hji66⟩ : ∃ j_ : Int, (mx x16_2 0) = j_ := ⟨_, rfl⟩
       replace H : (if Small ji66 then (if x15_2.length < 1000 then (impl_Zigzag.l1 k2 a3 x10_2 (x15_2 ++ [ji66]) ji66 0 a1_0 a1_1 l1_2 a2 x277000_2 x281000_2 x282000_2) else (none)) else (none)) = some (r1, r2) := by first | (rw [hji66] at H; exact H) | (simp only [hji66] at H ⊢; exact H)
       have cKs : Small ji66 := Decidable.byContradiction fun hn_ => by rw [if_neg hn_] at H; exact absurd H (by simp)
       rw [if_pos cKs] at H
       have cKl : x15_2.length < 1000 := Decidable.byContradiction fun hn_ => by rw [if_neg hn_] at H; exact absurd H (by simp)
       rw [if_pos cKl] at H
       have KS := zA cKs
       have KL := zA cKl
       clear cKs cKl
       have hji66_ : (if x16_2 < 0 then 0 else x16_2) = ji66 := hji66
       have H' := zA H
       clear H
       go_wp2_with (first | ((with_reducible refine gate_ (Op.mapUpdate 81 (.tmp 53) (.tmp 54) (.const (.bool true))) rfl ?_); refine wpList_update_int rfl rfl Try.underlying3 Try.underlying81 Try.underlying4 BM x15_2 om (bA_ BKM) HS.out ji66 KS.out KL.out rfl (by first | rfl | (go_simp; done) | (go_simp; rfl) | (simp only [hji66_]; rfl)) rfl ?_; intro wM hsm2 hgr2; have k0_ := zA (row_grown (bC_ HO_10) hgr2 (bA_ BKM) HS.out); have k1_ := zA (row_grown (bC_ HO_277000) hgr2 (bA_ BKM) HS.out); have k2_ := zA (row_grown (bC_ HO_281000) hgr2 (bA_ BKM) HS.out); have k3_ := zA (blk_grown (bA_ BK266) hgr2 (fun e_ => int_ne_cells HS.out BK266.out BKM.out (Option.some.inj e_).symm)); have k4_ := zA (blk_grown (bA_ BK267) hgr2 (fun e_ => int_ne_cells HS.out BK267.out BKM.out (Option.some.inj e_).symm)); have k5_ := zA (blk_grown (bA_ BK268) hgr2 (fun e_ => int_ne_cells HS.out BK268.out BKM.out (Option.some.inj e_).symm)); have k6_ := zA (blk_grown (bA_ BK276) hgr2 (fun e_ => int_ne_cells HS.out BK276.out BKM.out (Option.some.inj e_).symm)); have k7_ := zA (blk_grown (bA_ BK280) hgr2 (fun e_ => int_ne_cells HS.out BK280.out BKM.out (Option.some.inj e_).symm)); have k8_ := zA (blk_grown (bA_ BK281) hgr2 (fun e_ => int_ne_cells HS.out BK281.out BKM.out (Option.some.inj e_).symm)); have k9_ := zA (pw_below_grown (bB_ HB) (some BM) (zT (bB_ HB)) hgr2 (fun k_ hk_ => by cases hk_; exact HBM.out)); clear HO_10 HO_277000 HO_281000 BK266 BK267 BK268 BK276 BK280 BK281 HB; clear BKM HS; have HO_10 := k0_; have HO_277000 := k1_; have HO_281000 := k2_; have BK266 := k3_; have BK267 := k4_; have BK268 := k5_; have BK276 := k6_; have BK280 := k7_; have BK281 := k8_; have HB := k9_; clear k0_ k1_ k2_ k3_ k4_ k5_ k6_ k7_ k8_ k9_; obtain ⟨om, hom2, hos2⟩ := hsm2; have BKM := zA hom2; have HS := zA hos2; clear hom2 hos2 hgr2))
       go_loopg [17] k2 (fun kq v17 w' => ∃ (x10_3 : List Int) (x17_3 : Int) (x277000_3 : List Int) (x281000_3 : List (S61)) (x282000_3 : Int) (u277000 : Value) (u281000 : Value), v17 = .int .i64 x17_3 ∧ Aside0 (impl_Zigzag.l1 kq a3 x10_3 (x15_2 ++ [ji66]) ji66 x17_3 a1_0 a1_1 l1_2 a2 x277000_3 x281000_3 x282000_3 = some (r1, r2)) ∧ Aside0 (kq ≤ k2) ∧ Aside0 (Kd.R (Kd.int .i64) 3 w' w.heap.size (fun k_ => some k_ ≠ (u277000 : Value).ownBlock) v271 x10_3) ∧ Aside0 (Kd.R (Kd.int .i64) 3 w' w.heap.size (fun k_ => some k_ ≠ (v271 : Value).ownBlock) u277000 x277000_3) ∧ Aside0 (Kd.R k61 61 w' w.heap.size (fun _ => True) u281000 x281000_3) ∧ Aside0 (w'.heap[gb266]? = some (.cells #[.int .i64 a0_0, .int .i64 a0_1, (.slice A0_2 l0_2.length c0_2)] 26 (0, 0))) ∧ Aside0 (w'.heap[gb267]? = some (.cells #[.int .i64 a1_0, .int .i64 a1_1, (.slice A1_2 l1_2.length c1_2)] 26 (0, 0))) ∧ Aside0 (w'.heap[gb268]? = some (.cells #[.int .i64 a2] 3 (0, 0))) ∧ Aside0 (w'.heap[gb276]? = some (.cells #[u277000] 22 (0, 0))) ∧ Aside0 (w'.heap[gb280]? = some (.cells #[u281000] 47 (0, 0))) ∧ Aside0 (w'.heap[gb281]? = some (.cells #[.int .i64 x282000_3] 3 (0, 0))) ∧ Aside0 (some gb268 ≠ (u277000 : Value).ownBlock) ∧ Aside0 (some gb281 ≠ (u277000 : Value).ownBlock) ∧ Aside0 (w'.heap[BM]? = some om) ∧ Aside0 (Below w.heap.size w w'))
       case atStart => exact ⟨(x10_2), (0), (x277000_2), (x281000_2), (x282000_2), (u277000), (u281000), (by first | rfl | (simp; done) | (simp [*]; done)), H', ⟨Nat.le_refl _⟩, ⟨bC_ HO_10⟩, ⟨bC_ HO_277000⟩, ⟨bC_ HO_281000⟩, ⟨bA_ BK266⟩, ⟨bA_ BK267⟩, ⟨bA_ BK268⟩, ⟨bA_ BK276⟩, ⟨bA_ BK280⟩, ⟨bA_ BK281⟩, HYR, HYY, ⟨bA_ BKM⟩, ⟨bB_ HB⟩⟩
       case round =>
        clear H'
        try clear c1
        try clear c2
        try clear p2
        try clear c3
        try clear c4
        try clear c5
        try clear c6
        try clear p6
        try clear c10
        try clear c11
        try clear c11b0
        try clear c12
        try clear c13
        try clear c15
        try clear c19
        try clear c20
        try clear c22
        try clear c26
        try clear c27
        try clear c28
        try clear c29
        try clear c33
        try clear c35
        try clear c36
        try clear c37
        try clear c39
        try clear c46
        try clear c47
        try clear c48
        try clear c54
        try clear c55
        try clear c56
        try clear c57
        try clear c60
        try clear c61
        try clear c62
        try clear c63
        try clear c64
        try clear p64
        try clear hcz14_0
        try clear hcz14_1
        try clear hcz14_2
        try clear hcz16_0
        try clear hcz16_1
        try clear hcz16_2
        try clear hcz17_0
        try clear hcz21_0
        try clear hcz21_1
        try clear hcz21_2
        try clear hcz23_0
        try clear hcz23_1
        try clear hcz23_2
        try clear hcz24_0
        try clear hcz28_0
        try clear hcz28_1
        try clear hcz28_2
        try clear hcz30_0
        try clear hcz30_1
        try clear hcz30_2
        try clear hcz31_0
        try clear hcz38_0
        try clear hcz38_1
        try clear hcz38_2
        try clear hcz40_0
        try clear hcz42_0
        try clear hcz42_1
        try clear hcz42_2
        try clear hcz49_0
        try clear hcz58_0
        try clear hcz65_0
        try clear hfz14_0
        try clear hfz14_1
        try clear hfz14_2
        try clear hfz16_0
        try clear hfz16_1
        try clear hfz16_2
        try clear hfz17_0
        try clear hfz21_0
        try clear hfz21_1
        try clear hfz21_2
        try clear hfz23_0
        try clear hfz23_1
        try clear hfz23_2
        try clear hfz24_0
        try clear hfz28_0
        try clear hfz28_1
        try clear hfz28_2
        try clear hfz30_0
        try clear hfz30_1
        try clear hfz30_2
        try clear hfz31_0
        try clear hfz38_0
        try clear hfz38_1
        try clear hfz38_2
        try clear hfz40_0
        try clear hfz42_0
        try clear hfz42_1
        try clear hfz42_2
        try clear hfz49_0
        try clear hfz58_0
        try clear hfz65_0
        try clear p2
        try clear p6
        try clear p64
        obtain ⟨x10_3, x17_3, x277000_3, x281000_3, x282000_3, u277000, u281000, rfl, HA, HK3, HO_10, HO_277000, HO_281000, BK266, BK267, BK268, BK276, BK280, BK281, HYR, HYY, BKM, HB⟩ := hrel
        cases gk with
        | zero => exact absurd HA.out (by simp [impl_Zigzag.l1])
        | succ k3 =>
         have H := HA.out
         clear HA
         simp only [impl_Zigzag.l1] at H
         by_cases c67 : x17_3 < a1_1
         ·rw [if_pos c67] at H
          have c67b0 : decide (x17_3 < a1_1) = true := decide_eq_true c67
          clear c67
          have H' := zA H
          clear H
          have hnb68 := NB267_266.out
          have hnc68 := NB266_267.out
          have hnb69 := NB267_268.out
          have hnc69 := NB268_267.out
          have hnb70 := NB267_276.out
          have hnc70 := NB276_267.out
          have hnb71 := NB267_280.out
          have hnc71 := NB280_267.out
          have hnb72 := NB267_281.out
          have hnc72 := NB281_267.out
          have hcz73_0 : wr.cell? ⟨gb267, 0, none⟩ = some (.int .i64 a1_0) := (blk_cell BK267.out 0).trans rfl
          have hcz73_1 : wr.cell? ⟨gb267, 1, none⟩ = some (.int .i64 a1_1) := (blk_cell BK267.out 1).trans rfl
          have hcz73_2 : wr.cell? ⟨gb267, 2, none⟩ = some (.slice A1_2 l1_2.length c1_2) := (blk_cell BK267.out 2).trans rfl
          have hfz73_0 := blk_frozen BK267.out 0
          have hfz73_1 := blk_frozen BK267.out 1
          have hfz73_2 := blk_frozen BK267.out 2
          go_wp2
          go_loopg [18] k3 (fun kq v18 w' => ∃ (x10_4 : List Int) (x18_4 : Int) (x277000_4 : List Int) (x281000_4 : List (S61)) (x282000_4 : Int) (u277000 : Value) (u281000 : Value), v18 = .int .i64 x18_4 ∧ Aside0 (impl_Zigzag.l2 kq a3 x10_4 (x15_2 ++ [ji66]) ji66 x17_3 x18_4 a1_0 a1_1 l1_2 a2 x277000_4 x281000_4 x282000_4 = some (r1, r2)) ∧ Aside0 (kq ≤ k3) ∧ Aside0 (Kd.R (Kd.int .i64) 3 w' w.heap.size (fun k_ => some k_ ≠ (u277000 : Value).ownBlock) v271 x10_4) ∧ Aside0 (Kd.R (Kd.int .i64) 3 w' w.heap.size (fun k_ => some k_ ≠ (v271 : Value).ownBlock) u277000 x277000_4) ∧ Aside0 (Kd.R k61 61 w' w.heap.size (fun _ => True) u281000 x281000_4) ∧ Aside0 (w'.heap[gb266]? = some (.cells #[.int .i64 a0_0, .int .i64 a0_1, (.slice A0_2 l0_2.length c0_2)] 26 (0, 0))) ∧ Aside0 (w'.heap[gb267]? = some (.cells #[.int .i64 a1_0, .int .i64 a1_1, (.slice A1_2 l1_2.length c1_2)] 26 (0, 0))) ∧ Aside0 (w'.heap[gb268]? = some (.cells #[.int .i64 a2] 3 (0, 0))) ∧ Aside0 (w'.heap[gb276]? = some (.cells #[u277000] 22 (0, 0))) ∧ Aside0 (w'.heap[gb280]? = some (.cells #[u281000] 47 (0, 0))) ∧ Aside0 (w'.heap[gb281]? = some (.cells #[.int .i64 x282000_4] 3 (0, 0))) ∧ Aside0 (some gb268 ≠ (u277000 : Value).ownBlock) ∧ Aside0 (some gb281 ≠ (u277000 : Value).ownBlock) ∧ Aside0 (w'.heap[BM]? = some om) ∧ Aside0 (Below w.heap.size w w'))
          case atStart => exact ⟨(x10_3), (0), (x277000_3), (x281000_3), (x282000_3), (u277000), (u281000), (by first | rfl | (simp; done) | (simp [*]; done)), H', ⟨Nat.le_refl _⟩, ⟨bC_ HO_10⟩, ⟨bC_ HO_277000⟩, ⟨bC_ HO_281000⟩, ⟨bA_ BK266⟩, ⟨bA_ BK267⟩, ⟨bA_ BK268⟩, ⟨bA_ BK276⟩, ⟨bA_ BK280⟩, ⟨bA_ BK281⟩, HYR, HYY, ⟨bA_ BKM⟩, ⟨bB_ HB⟩⟩
          case round =>
           clear H'
           try clear c1
           try clear c2
           try clear p2
           try clear c3
           try clear c4
           try clear c5
           try clear c6
           try clear p6
           try clear c7
           try clear c10
           try clear c11
           try clear c11b0
           try clear c12
           try clear c13
           try clear c15
           try clear c19
           try clear c20
           try clear c22
           try clear c26
           try clear c27
           try clear c28
           try clear c29
           try clear c33
           try clear c35
           try clear c36
           try clear c37
           try clear c39
           try clear c46
           try clear c47
           try clear c48
           try clear c54
           try clear c55
           try clear c56
           try clear c57
           try clear c60
           try clear c61
           try clear c62
           try clear c63
           try clear c64
           try clear p64
           try clear c67
           try clear c67b0
           try clear c68
           try clear c69
           try clear c70
           try clear c71
           try clear c72
           try clear hcz14_0
           try clear hcz14_1
           try clear hcz14_2
           try clear hcz16_0
           try clear hcz16_1
           try clear hcz16_2
           try clear hcz17_0
           try clear hcz21_0
           try clear hcz21_1
           try clear hcz21_2
           try clear hcz23_0
           try clear hcz23_1
           try clear hcz23_2
           try clear hcz24_0
           try clear hcz28_0
           try clear hcz28_1
           try clear hcz28_2
           try clear hcz30_0
           try clear hcz30_1
           try clear hcz30_2
           try clear hcz31_0
           try clear hcz38_0
           try clear hcz38_1
           try clear hcz38_2
           try clear hcz40_0
           try clear hcz42_0
           try clear hcz42_1
           try clear hcz42_2
           try clear hcz49_0
           try clear hcz58_0
           try clear hcz65_0
           try clear hcz73_0
           try clear hcz73_1
           try clear hcz73_2
           try clear hfz14_0
           try clear hfz14_1
           try clear hfz14_2
           try clear hfz16_0
           try clear hfz16_1
           try clear hfz16_2
           try clear hfz17_0
           try clear hfz21_0
           try clear hfz21_1
           try clear hfz21_2
           try clear hfz23_0
           try clear hfz23_1
           try clear hfz23_2
           try clear hfz24_0
           try clear hfz28_0
           try clear hfz28_1
           try clear hfz28_2
           try clear hfz30_0
           try clear hfz30_1
           try clear hfz30_2
           try clear hfz31_0
           try clear hfz38_0
           try clear hfz38_1
           try clear hfz38_2
           try clear hfz40_0
           try clear hfz42_0
           try clear hfz42_1
           try clear hfz42_2
           try clear hfz49_0
           try clear hfz58_0
           try clear hfz65_0
           try clear hfz73_0
           try clear hfz73_1
           try clear hfz73_2
           try clear p2
           try clear p6
           try clear p64
           obtain ⟨x10_4, x18_4, x277000_4, x281000_4, x282000_4, u277000, u281000, rfl, HA, HK4, HO_10, HO_277000, HO_281000, BK266, BK267, BK268, BK276, BK280, BK281, HYR, HYY, BKM, HB⟩ := hrel
           cases gk with
           | zero => exact absurd HA.out (by simp [impl_Zigzag.l2])
           | succ k4 =>
            have H := HA.out
            clear HA
            simp only [impl_Zigzag.l2] at H
            by_cases c74 : x18_4 < a1_0
            ·rw [if_pos c74] at H
             have c74b0 : decide (x18_4 < a1_0) = true := decide_eq_true c74
             clear c74
             by_cases c75 : (Int.tmod x17_3 2) = 1
             ·rw [if_pos c75] at H
              have c75b0 : ((Int.tmod x17_3 2) == 1) = true := beq_iff_eq.mpr c75
              have c75b1 : ((Int.tmod x17_3 2) != 1) = false := bne_eq_false_iff_eq.mpr c75
              clear c75
              obtain ⟨ji76, hji76⟩ : ∃ j_ : Int, (wrap64 ((wrap64 (x17_3 * a1_0)) + (wrap64 ((wrap64 (a1_0 - 1)) - x18_4)))) = j_ := ⟨_, rfl⟩
              replace H : (if 0 ≤ (ji76) then (if (ji76) < (x10_4.length : Int) then (if (rd x10_4 (ji76)) ≤ ji66 then ((impl_Zigzag_1.f k4 (wrap64 ((wrap64 (a1_0 - 1)) - x18_4)) x17_3 ji66 a1_0 a1_1 l1_2 a2 x277000_4 x281000_4 x282000_4).bind fun bt283 => (impl_Zigzag.l2 k4 a3 x10_4 (x15_2 ++ [ji66]) ji66 x17_3 (wrap64 (x18_4 + 1)) a1_0 a1_1 l1_2 a2 bt283.2.2 bt283.2.1 bt283.1)) else (impl_Zigzag.l2 k4 a3 x10_4 (x15_2 ++ [ji66]) ji66 x17_3 (wrap64 (x18_4 + 1)) a1_0 a1_1 l1_2 a2 x277000_4 x281000_4 x282000_4)) else (none)) else (none)) = some (r1, r2) := by first | (rw [hji76] at H; exact H) | (simp only [hji76] at H ⊢; exact H)
              have hji76w : (IntKind.i64.wrap ((wrap64 (x17_3 * a1_0)) + (wrap64 ((wrap64 (a1_0 - 1)) - x18_4)))) = ji76 := (i64_w _).trans hji76
              by_cases c77 : 0 ≤ (ji76)
              ·rw [if_pos c77] at H
               have c77b0 : decide (0 ≤ (ji76)) = true := decide_eq_true c77
               clear c77
               by_cases c78 : (ji76) < (x10_4.length : Int)
               ·rw [if_pos c78] at H
                have c78b0 : decide ((ji76) < (x10_4.length : Int)) = true := decide_eq_true c78
                clear c78
                by_cases c79 : (rd x10_4 (ji76)) ≤ ji66
                ·rw [if_pos c79] at H
                 have c79b0 : decide ((rd x10_4 (ji76)) ≤ ji66) = true := decide_eq_true c79
                 clear c79
                 replace H := Option.bind_eq_some_iff.mp H
                 obtain ⟨⟨t283, t284, t287⟩, A800, H⟩ := H
                 replace H : (impl_Zigzag.l2 k4 a3 x10_4 (x15_2 ++ [ji66]) ji66 x17_3 (wrap64 (x18_4 + 1)) a1_0 a1_1 l1_2 a2 t287 t284 t283) = some (r1, r2) := H
                 have A80 := zA A800
                 clear A800
                 have H' := zA H
                 clear H
                 have hnb81 := NB267_266.out
                 have hnc81 := NB266_267.out
                 have hnb82 := NB267_268.out
                 have hnc82 := NB268_267.out
                 have hnb83 := NB267_276.out
                 have hnc83 := NB276_267.out
                 have hnb84 := NB267_280.out
                 have hnc84 := NB280_267.out
                 have hnb85 := NB267_281.out
                 have hnc85 := NB281_267.out
                 have hcz86_0 : wr.cell? ⟨gb267, 0, none⟩ = some (.int .i64 a1_0) := (blk_cell BK267.out 0).trans rfl
                 have hcz86_1 : wr.cell? ⟨gb267, 1, none⟩ = some (.int .i64 a1_1) := (blk_cell BK267.out 1).trans rfl
                 have hcz86_2 : wr.cell? ⟨gb267, 2, none⟩ = some (.slice A1_2 l1_2.length c1_2) := (blk_cell BK267.out 2).trans rfl
                 have hfz86_0 := blk_frozen BK267.out 0
                 have hfz86_1 := blk_frozen BK267.out 1
                 have hfz86_2 := blk_frozen BK267.out 2
                 obtain ⟨Ao87, co87, eo87⟩ := Kd.R_slice HO_10.out
                 subst eo87
                 have p282 : 0 ≤ ((ji76) : Int) := of_decide_eq_true (by first | (with_reducible assumption) | assumption)
                 have q282 : (ji76) < (x10_4.length : Int) := of_decide_eq_true (by first | (with_reducible assumption) | assumption)
                 obtain ⟨ad282, e282, hx282_0⟩ := Kd.at_int (zK HO_10.out).2.2 (ji76) p282 q282
                 cases e282
                 replace p282 := eq_true p282
                 replace q282 := eq_true q282
                 have hnb88 := NB268_266.out
                 have hnc88 := NB266_268.out
                 have hnb89 := NB268_276.out
                 have hnc89 := NB276_268.out
                 have hnb90 := NB268_280.out
                 have hnc90 := NB280_268.out
                 have hnb91 := NB268_281.out
                 have hnc91 := NB281_268.out
                 have hcz92_0 : wr.cell? ⟨gb268, 0, none⟩ = some (.int .i64 a2) := (blk_cell BK268.out 0).trans rfl
                 have hfz92_0 := blk_frozen BK268.out 0
                 have hnb93 := NB276_266.out
                 have hnc93 := NB266_276.out
                 have hnb94 := NB276_280.out
                 have hnc94 := NB280_276.out
                 have hnb95 := NB276_281.out
                 have hnc95 := NB281_276.out
                 have hcz96_0 : wr.cell? ⟨gb276, 0, none⟩ = some (u277000) := (blk_cell BK276.out 0).trans rfl
                 have hfz96_0 := blk_frozen BK276.out 0
                 have hnb97 := NB280_266.out
                 have hnc97 := NB266_280.out
                 have hnb98 := NB280_281.out
                 have hnc98 := NB281_280.out
                 have hcz99_0 : wr.cell? ⟨gb280, 0, none⟩ = some (u281000) := (blk_cell BK280.out 0).trans rfl
                 have hfz99_0 := blk_frozen BK280.out 0
                 have hnb100 := NB281_266.out
                 have hnc100 := NB266_281.out
                 have hcz101_0 : wr.cell? ⟨gb281, 0, none⟩ = some (.int .i64 x282000_4) := (blk_cell BK281.out 0).trans rfl
                 have hfz101_0 := blk_frozen BK281.out 0
                 obtain ⟨Ao102, co102, eo102⟩ := Kd.R_slice HO_277000.out
                 subst eo102
                 obtain ⟨Ao103, co103, eo103⟩ := Kd.R_slice HO_281000.out
                 subst eo103
                 go_wp2_with (first | ((with_reducible refine gate_value (c := .tmp 87) rfl ?_); refine goesV_ (cap := #[.pointer (some ⟨gb267, 0, none⟩), .pointer (some ⟨gb268, 0, none⟩), .pointer (some ⟨gb276, 0, none⟩), .pointer (some ⟨gb280, 0, none⟩), .pointer (some ⟨gb281, 0, none⟩)]) (some 91) rfl rfl Try.func61 (by kernel_rfl) rfl #[.int .i64 (wrap64 ((wrap64 (a1_0 - 1)) - x18_4)), .int .i64 x17_3, .int .i64 ji66, .pointer (some ⟨gb267, 0, none⟩), .pointer (some ⟨gb268, 0, none⟩), .pointer (some ⟨gb276, 0, none⟩), .pointer (some ⟨gb280, 0, none⟩), .pointer (some ⟨gb281, 0, none⟩)] rfl (by first | rfl | (go_simp; done)) (by first | (go_simp; done) | ((try simp only [List.map_toArray, List.map_cons, List.map_nil, List.append_toArray, List.cons_append, List.nil_append]); first | done | rfl | (simp only [hji66]; rfl))) ?_; (with_reducible refine (impl_Zigzag_1.calls k4 (wrap64 ((wrap64 (a1_0 - 1)) - x18_4)) x17_3 ji66 a1_0 a1_1 A1_2 c1_2 l1_2 a2 (fun k_ => some k_ = (.slice Ao102 x277000_4.length co102 : Value).ownBlock) (.slice Ao102 x277000_4.length co102) x277000_4 (fun k_ => some k_ = (.slice Ao103 x281000_4.length co103 : Value).ownBlock ∨ k_ = gb280 ∨ k_ = gb281) (.slice Ao103 x281000_4.length co103) x281000_4 x282000_4 t283 t284 t287 w _ ?side1 ?side2 ?side3 ?side4 ?side5 gb267 ?sM0 GE267.out gb268 ?sM1 GE268.out gb276 ?sM2 GE276.out gb280 ?sM3 GE280.out gb281 ?sM4 GE281.out (.inr (.inl rfl)) (.inr (.inr rfl)) HYR.out HYY.out NB268_281.out A80.out).mono ?_); (case side1 => repeat (first | (with_reducible first | exact HB.out | apply zR | apply zP | apply zQ | refine zS ?_ GE266.out | refine zS ?_ GE267.out | refine zS ?_ GE268.out | refine zS ?_ GE276.out | refine zS ?_ GE280.out | refine zS ?_ GE281.out) | exact HB.out)); (case side2 => exact Kd.C_kept_came (Kd.heap_int .i64) HR1_2.out (bB_ HB) (fun k_ hs_ => Or.elim hs_ (fun e_ => (fun e_ => Kd.R_base HO_277000.out k_ e_.symm) e_) (fun e0_ => Or.elim e0_ (fun e_ => (fun e_ => Kd.R_base HO_281000.out k_ e_.symm) e_) (fun e1_ => Or.elim e1_ (fun e_ => by rw [e_]; exact GE280.out) (fun e_ => by rw [e_]; exact GE281.out))))); (case side3 => exact HC1_2.out); (case side4 => exact Kd.R_tight rfl HO_277000.out); (case side5 => exact Kd.R_mono (Kd.R_tight rfl HO_281000.out) (fun _ h_ => .inl h_)); (case sM0 => (with_reducible repeat (first | refine zM ?_ _ | refine zN ?_ | refine zO ?_ _)); exact BK267.out); (case sM1 => (with_reducible repeat (first | refine zM ?_ _ | refine zN ?_ | refine zO ?_ _)); exact BK268.out); (case sM2 => (with_reducible repeat (first | refine zM ?_ _ | refine zN ?_ | refine zO ?_ _)); exact BK276.out); (case sM3 => (with_reducible repeat (first | refine zM ?_ _ | refine zN ?_ | refine zO ?_ _)); exact BK280.out); (case sM4 => (with_reducible repeat (first | refine zM ?_ _ | refine zN ?_ | refine zO ?_ _)); exact BK281.out); rintro e w104 ⟨v285, rfl, hMm, hMy, ho0, hy0, hb, hkp⟩; refine ⟨_, rfl, ?_⟩; have n0_ := zA (Kd.R_mono (ok' := fun k_ => some k_ ≠ (.slice Ao102 x277000_4.length co102 : Value).ownBlock) (Kd.R_keptB (Kd.R_far1 (Kd.R_types ((Kd.R_apart' HO_10.out (Kd.R_typed HO_281000.out) (by decide))) BK280.out (by decide)) rfl NRY.out) hkp (fun k_ hk_ hs_ => Or.elim hs_ (fun e_ => (hk_.1.1.1) e_) (fun e0_ => Or.elim e0_ (fun e_ => (hk_.1.1.2) e_) (fun e1_ => Or.elim e1_ (fun e_ => hk_.1.2 e_) (fun e_ => hk_.2 e_))))) (fun k_ hk_ => hk_.1.1.1.1)); have n1_ := zA (Kd.R_reok rfl hy0 (fun k_ e_ => HO_277000.out.1 k_ e_)); have n2_ := zA (blk_kept (bA_ BK266) hkp (fun hs_ => Or.elim hs_ (fun e_ => (fun e_ => (Kd.R_ne HO_277000.out BK266.out (by decide)) e_) e_) (fun e0_ => Or.elim e0_ (fun e_ => (fun e_ => (Kd.R_ne HO_281000.out BK266.out (by decide)) e_) e_) (fun e1_ => Or.elim e1_ (fun e_ => NB266_280.out e_) (fun e_ => NB266_281.out e_))))); have n3_ := zA (blk_kept (bA_ BK267) hkp (fun hs_ => Or.elim hs_ (fun e_ => (fun e_ => (Kd.R_ne HO_277000.out BK267.out (by decide)) e_) e_) (fun e0_ => Or.elim e0_ (fun e_ => (fun e_ => (Kd.R_ne HO_281000.out BK267.out (by decide)) e_) e_) (fun e1_ => Or.elim e1_ (fun e_ => NB267_280.out e_) (fun e_ => NB267_281.out e_))))); have n4_ := zA (blk_kept (bA_ BK268) hkp (fun hs_ => Or.elim hs_ (fun e_ => HYR.out e_) (fun e0_ => Or.elim e0_ (fun e_ => (fun e_ => (Kd.R_ne HO_281000.out BK268.out (by decide)) e_) e_) (fun e1_ => Or.elim e1_ (fun e_ => NB268_280.out e_) (fun e_ => NB268_281.out e_))))); have n5_ := zA (blk_kept (bA_ BK276) hkp (fun hs_ => Or.elim hs_ (fun e_ => (fun e_ => (Kd.R_ne HO_277000.out BK276.out (by decide)) e_) e_) (fun e0_ => Or.elim e0_ (fun e_ => (fun e_ => (Kd.R_ne HO_281000.out BK276.out (by decide)) e_) e_) (fun e1_ => Or.elim e1_ (fun e_ => NB276_280.out e_) (fun e_ => NB276_281.out e_))))); have n6_ := zA hMm; have n7_ := zA hMy; have n8_ := zA (Kd.R_mono (ok' := fun k_ => True) ho0 (fun k_ hk_ => trivial)); have n9_ := zA (hb); have mM_ := zA (blk_kept BKM.out hkp (fun hs_ => Or.elim hs_ (fun e_ => int_ne_row HS.out BKM.out (Kd.R_typed HO_277000.out) e_) (fun e0_ => Or.elim e0_ (fun e_ => int_ne_row HS.out BKM.out (Kd.R_typed HO_281000.out) e_) (fun e1_ => Or.elim e1_ (fun e_ => int_ne_cells HS.out BK280.out BKM.out e_) (fun e_ => int_ne_cells HS.out BK281.out BKM.out e_))))); clear BKM; have BKM := mM_; clear mM_; clear HO_10; clear HO_277000; clear BK266; clear BK267; clear BK268; clear BK276; clear BK280; clear BK281; clear HB; clear HO_281000; have HO_10 := n0_; have HO_277000 := n1_; have BK266 := n2_; have BK267 := n3_; have BK268 := n4_; have BK276 := n5_; have BK280 := n6_; have BK281 := n7_; have HO286 := n8_; have HB := n9_; clear n0_ n1_ n2_ n3_ n4_ n5_ n6_ n7_ n8_ n9_; (try clear hb); (try clear hkp); (try clear ho0); (try clear hy0); obtain ⟨Ao106, co106, eo106⟩ := Kd.R_slice HO286.out; subst eo106))
                 go_roundg k4
                 case measure => have := HJ4.out; have := HK2.out; have := HK3.out; have := HK4.out; omega
                 case rel => exact ⟨(x10_4), (wrap64 (x18_4 + 1)), (t287), (t284), (t283), (.slice Ao102 x277000_4.length co102), (.slice Ao106 t284.length co106), (by first | rfl | (simp; done) | (simp [*]; done)), H', ⟨by have := HJ4.out; have := HK2.out; have := HK3.out; have := HK4.out; omega⟩, ⟨bC_ HO_10⟩, ⟨bC_ HO_277000⟩, ⟨by (with_reducible repeat (first | apply zF | apply zE | apply zG)); exact Kd.R_mono HO286.out (fun _ _ => trivial)⟩, ⟨bA_ BK266⟩, ⟨bA_ BK267⟩, ⟨bA_ BK268⟩, ⟨bA_ BK276⟩, ⟨bA_ BK280⟩, ⟨bA_ BK281⟩, HYR, HYY, ⟨bA_ BKM⟩, ⟨bB_ HB⟩⟩
                ·rw [if_neg c79] at H
                 have c79b0 : decide ((rd x10_4 (ji76)) ≤ ji66) = false := decide_eq_false c79
                 clear c79
                 have H' := zA H
                 clear H
                 have hnb108 := NB267_266.out
                 have hnc108 := NB266_267.out
                 have hnb109 := NB267_268.out
                 have hnc109 := NB268_267.out
                 have hnb110 := NB267_276.out
                 have hnc110 := NB276_267.out
                 have hnb111 := NB267_280.out
                 have hnc111 := NB280_267.out
                 have hnb112 := NB267_281.out
                 have hnc112 := NB281_267.out
                 have hcz113_0 : wr.cell? ⟨gb267, 0, none⟩ = some (.int .i64 a1_0) := (blk_cell BK267.out 0).trans rfl
                 have hcz113_1 : wr.cell? ⟨gb267, 1, none⟩ = some (.int .i64 a1_1) := (blk_cell BK267.out 1).trans rfl
                 have hcz113_2 : wr.cell? ⟨gb267, 2, none⟩ = some (.slice A1_2 l1_2.length c1_2) := (blk_cell BK267.out 2).trans rfl
                 have hfz113_0 := blk_frozen BK267.out 0
                 have hfz113_1 := blk_frozen BK267.out 1
                 have hfz113_2 := blk_frozen BK267.out 2
                 obtain ⟨Ao114, co114, eo114⟩ := Kd.R_slice HO_10.out
                 subst eo114
                 have p282 : 0 ≤ ((ji76) : Int) := of_decide_eq_true (by first | (with_reducible assumption) | assumption)
                 have q282 : (ji76) < (x10_4.length : Int) := of_decide_eq_true (by first | (with_reducible assumption) | assumption)
                 obtain ⟨ad282, e282, hx282_0⟩ := Kd.at_int (zK HO_10.out).2.2 (ji76) p282 q282
                 cases e282
                 replace p282 := eq_true p282
                 replace q282 := eq_true q282
                 go_wp2
                 go_roundg k4
                 case measure => have := HJ4.out; have := HK2.out; have := HK3.out; have := HK4.out; omega
                 case rel => exact ⟨(x10_4), (wrap64 (x18_4 + 1)), (x277000_4), (x281000_4), (x282000_4), (u277000), (u281000), (by first | rfl | (simp; done) | (simp [*]; done)), H', ⟨by have := HJ4.out; have := HK2.out; have := HK3.out; have := HK4.out; omega⟩, ⟨bC_ HO_10⟩, ⟨bC_ HO_277000⟩, ⟨bC_ HO_281000⟩, ⟨bA_ BK266⟩, ⟨bA_ BK267⟩, ⟨bA_ BK268⟩, ⟨bA_ BK276⟩, ⟨bA_ BK280⟩, ⟨bA_ BK281⟩, HYR, HYY, ⟨bA_ BKM⟩, ⟨bB_ HB⟩⟩
               ·rw [if_neg c78] at H
                exact absurd H (by simp)
              ·rw [if_neg c77] at H
               exact absurd H (by simp)
             ·rw [if_neg c75] at H
              have c75b0 : ((Int.tmod x17_3 2) == 1) = false := beq_eq_false_iff_ne.mpr c75
              have c75b1 : ((Int.tmod x17_3 2) != 1) = true := bne_iff_ne.mpr c75
              obtain ⟨ji115, hji115⟩ : ∃ j_ : Int, (wrap64 ((wrap64 (x17_3 * a1_0)) + x18_4)) = j_ := ⟨_, rfl⟩
              replace H : (if 0 ≤ (ji115) then (if (ji115) < (x10_4.length : Int) then (if (rd x10_4 (ji115)) ≤ ji66 then ((impl_Zigzag_1.f k4 x18_4 x17_3 ji66 a1_0 a1_1 l1_2 a2 x277000_4 x281000_4 x282000_4).bind fun bt289 => (impl_Zigzag.l2 k4 a3 x10_4 (x15_2 ++ [ji66]) ji66 x17_3 (wrap64 (x18_4 + 1)) a1_0 a1_1 l1_2 a2 bt289.2.2 bt289.2.1 bt289.1)) else (impl_Zigzag.l2 k4 a3 x10_4 (x15_2 ++ [ji66]) ji66 x17_3 (wrap64 (x18_4 + 1)) a1_0 a1_1 l1_2 a2 x277000_4 x281000_4 x282000_4)) else (none)) else (none)) = some (r1, r2) := by first | (rw [hji115] at H; exact H) | (simp only [hji115] at H ⊢; exact H)
              have hji115w : (IntKind.i64.wrap ((wrap64 (x17_3 * a1_0)) + x18_4)) = ji115 := (i64_w _).trans hji115
              by_cases c116 : 0 ≤ (ji115)
              ·rw [if_pos c116] at H
               have c116b0 : decide (0 ≤ (ji115)) = true := decide_eq_true c116
               clear c116
               by_cases c117 : (ji115) < (x10_4.length : Int)
               ·rw [if_pos c117] at H
                have c117b0 : decide ((ji115) < (x10_4.length : Int)) = true := decide_eq_true c117
                clear c117
                by_cases c118 : (rd x10_4 (ji115)) ≤ ji66
                ·rw [if_pos c118] at H
                 have c118b0 : decide ((rd x10_4 (ji115)) ≤ ji66) = true := decide_eq_true c118
                 clear c118
                 replace H := Option.bind_eq_some_iff.mp H
                 obtain ⟨⟨t289, t290, t293⟩, A1190, H⟩ := H
                 replace H : (impl_Zigzag.l2 k4 a3 x10_4 (x15_2 ++ [ji66]) ji66 x17_3 (wrap64 (x18_4 + 1)) a1_0 a1_1 l1_2 a2 t293 t290 t289) = some (r1, r2) := H
                 have A119 := zA A1190
                 clear A1190
                 have H' := zA H
                 clear H
                 have hnb120 := NB267_266.out
                 have hnc120 := NB266_267.out
                 have hnb121 := NB267_268.out
                 have hnc121 := NB268_267.out
                 have hnb122 := NB267_276.out
                 have hnc122 := NB276_267.out
                 have hnb123 := NB267_280.out
                 have hnc123 := NB280_267.out
                 have hnb124 := NB267_281.out
                 have hnc124 := NB281_267.out
                 have hcz125_0 : wr.cell? ⟨gb267, 0, none⟩ = some (.int .i64 a1_0) := (blk_cell BK267.out 0).trans rfl
                 have hcz125_1 : wr.cell? ⟨gb267, 1, none⟩ = some (.int .i64 a1_1) := (blk_cell BK267.out 1).trans rfl
                 have hcz125_2 : wr.cell? ⟨gb267, 2, none⟩ = some (.slice A1_2 l1_2.length c1_2) := (blk_cell BK267.out 2).trans rfl
                 have hfz125_0 := blk_frozen BK267.out 0
                 have hfz125_1 := blk_frozen BK267.out 1
                 have hfz125_2 := blk_frozen BK267.out 2
                 obtain ⟨Ao126, co126, eo126⟩ := Kd.R_slice HO_10.out
                 subst eo126
                 have p288 : 0 ≤ ((ji115) : Int) := of_decide_eq_true (by first | (with_reducible assumption) | assumption)
                 have q288 : (ji115) < (x10_4.length : Int) := of_decide_eq_true (by first | (with_reducible assumption) | assumption)
                 obtain ⟨ad288, e288, hx288_0⟩ := Kd.at_int (zK HO_10.out).2.2 (ji115) p288 q288
                 cases e288
                 replace p288 := eq_true p288
                 replace q288 := eq_true q288
                 have hnb127 := NB268_266.out
                 have hnc127 := NB266_268.out
                 have hnb128 := NB268_276.out
                 have hnc128 := NB276_268.out
                 have hnb129 := NB268_280.out
                 have hnc129 := NB280_268.out
                 have hnb130 := NB268_281.out
                 have hnc130 := NB281_268.out
                 have hcz131_0 : wr.cell? ⟨gb268, 0, none⟩ = some (.int .i64 a2) := (blk_cell BK268.out 0).trans rfl
                 have hfz131_0 := blk_frozen BK268.out 0
                 have hnb132 := NB276_266.out
                 have hnc132 := NB266_276.out
                 have hnb133 := NB276_280.out
                 have hnc133 := NB280_276.out
                 have hnb134 := NB276_281.out
                 have hnc134 := NB281_276.out
                 have hcz135_0 : wr.cell? ⟨gb276, 0, none⟩ = some (u277000) := (blk_cell BK276.out 0).trans rfl
                 have hfz135_0 := blk_frozen BK276.out 0
                 have hnb136 := NB280_266.out
                 have hnc136 := NB266_280.out
                 have hnb137 := NB280_281.out
                 have hnc137 := NB281_280.out
                 have hcz138_0 : wr.cell? ⟨gb280, 0, none⟩ = some (u281000) := (blk_cell BK280.out 0).trans rfl
                 have hfz138_0 := blk_frozen BK280.out 0
                 have hnb139 := NB281_266.out
                 have hnc139 := NB266_281.out
                 have hcz140_0 : wr.cell? ⟨gb281, 0, none⟩ = some (.int .i64 x282000_4) := (blk_cell BK281.out 0).trans rfl
                 have hfz140_0 := blk_frozen BK281.out 0
                 obtain ⟨Ao141, co141, eo141⟩ := Kd.R_slice HO_277000.out
                 subst eo141
                 obtain ⟨Ao142, co142, eo142⟩ := Kd.R_slice HO_281000.out
                 subst eo142
                 go_wp2_with (first | ((with_reducible refine gate_value (c := .tmp 87) rfl ?_); refine goesV_ (cap := #[.pointer (some ⟨gb267, 0, none⟩), .pointer (some ⟨gb268, 0, none⟩), .pointer (some ⟨gb276, 0, none⟩), .pointer (some ⟨gb280, 0, none⟩), .pointer (some ⟨gb281, 0, none⟩)]) (some 91) rfl rfl Try.func61 (by kernel_rfl) rfl #[.int .i64 x18_4, .int .i64 x17_3, .int .i64 ji66, .pointer (some ⟨gb267, 0, none⟩), .pointer (some ⟨gb268, 0, none⟩), .pointer (some ⟨gb276, 0, none⟩), .pointer (some ⟨gb280, 0, none⟩), .pointer (some ⟨gb281, 0, none⟩)] rfl (by first | rfl | (go_simp; done)) (by first | (go_simp; done) | ((try simp only [List.map_toArray, List.map_cons, List.map_nil, List.append_toArray, List.cons_append, List.nil_append]); first | done | rfl | (simp only [hji66]; rfl))) ?_; (with_reducible refine (impl_Zigzag_1.calls k4 x18_4 x17_3 ji66 a1_0 a1_1 A1_2 c1_2 l1_2 a2 (fun k_ => some k_ = (.slice Ao141 x277000_4.length co141 : Value).ownBlock) (.slice Ao141 x277000_4.length co141) x277000_4 (fun k_ => some k_ = (.slice Ao142 x281000_4.length co142 : Value).ownBlock ∨ k_ = gb280 ∨ k_ = gb281) (.slice Ao142 x281000_4.length co142) x281000_4 x282000_4 t289 t290 t293 w _ ?side1 ?side2 ?side3 ?side4 ?side5 gb267 ?sM0 GE267.out gb268 ?sM1 GE268.out gb276 ?sM2 GE276.out gb280 ?sM3 GE280.out gb281 ?sM4 GE281.out (.inr (.inl rfl)) (.inr (.inr rfl)) HYR.out HYY.out NB268_281.out A119.out).mono ?_); (case side1 => repeat (first | (with_reducible first | exact HB.out | apply zR | apply zP | apply zQ | refine zS ?_ GE266.out | refine zS ?_ GE267.out | refine zS ?_ GE268.out | refine zS ?_ GE276.out | refine zS ?_ GE280.out | refine zS ?_ GE281.out) | exact HB.out)); (case side2 => exact Kd.C_kept_came (Kd.heap_int .i64) HR1_2.out (bB_ HB) (fun k_ hs_ => Or.elim hs_ (fun e_ => (fun e_ => Kd.R_base HO_277000.out k_ e_.symm) e_) (fun e0_ => Or.elim e0_ (fun e_ => (fun e_ => Kd.R_base HO_281000.out k_ e_.symm) e_) (fun e1_ => Or.elim e1_ (fun e_ => by rw [e_]; exact GE280.out) (fun e_ => by rw [e_]; exact GE281.out))))); (case side3 => exact HC1_2.out); (case side4 => exact Kd.R_tight rfl HO_277000.out); (case side5 => exact Kd.R_mono (Kd.R_tight rfl HO_281000.out) (fun _ h_ => .inl h_)); (case sM0 => (with_reducible repeat (first | refine zM ?_ _ | refine zN ?_ | refine zO ?_ _)); exact BK267.out); (case sM1 => (with_reducible repeat (first | refine zM ?_ _ | refine zN ?_ | refine zO ?_ _)); exact BK268.out); (case sM2 => (with_reducible repeat (first | refine zM ?_ _ | refine zN ?_ | refine zO ?_ _)); exact BK276.out); (case sM3 => (with_reducible repeat (first | refine zM ?_ _ | refine zN ?_ | refine zO ?_ _)); exact BK280.out); (case sM4 => (with_reducible repeat (first | refine zM ?_ _ | refine zN ?_ | refine zO ?_ _)); exact BK281.out); rintro e w143 ⟨v291, rfl, hMm, hMy, ho0, hy0, hb, hkp⟩; refine ⟨_, rfl, ?_⟩; have n0_ := zA (Kd.R_mono (ok' := fun k_ => some k_ ≠ (.slice Ao141 x277000_4.length co141 : Value).ownBlock) (Kd.R_keptB (Kd.R_far1 (Kd.R_types ((Kd.R_apart' HO_10.out (Kd.R_typed HO_281000.out) (by decide))) BK280.out (by decide)) rfl NRY.out) hkp (fun k_ hk_ hs_ => Or.elim hs_ (fun e_ => (hk_.1.1.1) e_) (fun e0_ => Or.elim e0_ (fun e_ => (hk_.1.1.2) e_) (fun e1_ => Or.elim e1_ (fun e_ => hk_.1.2 e_) (fun e_ => hk_.2 e_))))) (fun k_ hk_ => hk_.1.1.1.1)); have n1_ := zA (Kd.R_reok rfl hy0 (fun k_ e_ => HO_277000.out.1 k_ e_)); have n2_ := zA (blk_kept (bA_ BK266) hkp (fun hs_ => Or.elim hs_ (fun e_ => (fun e_ => (Kd.R_ne HO_277000.out BK266.out (by decide)) e_) e_) (fun e0_ => Or.elim e0_ (fun e_ => (fun e_ => (Kd.R_ne HO_281000.out BK266.out (by decide)) e_) e_) (fun e1_ => Or.elim e1_ (fun e_ => NB266_280.out e_) (fun e_ => NB266_281.out e_))))); have n3_ := zA (blk_kept (bA_ BK267) hkp (fun hs_ => Or.elim hs_ (fun e_ => (fun e_ => (Kd.R_ne HO_277000.out BK267.out (by decide)) e_) e_) (fun e0_ => Or.elim e0_ (fun e_ => (fun e_ => (Kd.R_ne HO_281000.out BK267.out (by decide)) e_) e_) (fun e1_ => Or.elim e1_ (fun e_ => NB267_280.out e_) (fun e_ => NB267_281.out e_))))); have n4_ := zA (blk_kept (bA_ BK268) hkp (fun hs_ => Or.elim hs_ (fun e_ => HYR.out e_) (fun e0_ => Or.elim e0_ (fun e_ => (fun e_ => (Kd.R_ne HO_281000.out BK268.out (by decide)) e_) e_) (fun e1_ => Or.elim e1_ (fun e_ => NB268_280.out e_) (fun e_ => NB268_281.out e_))))); have n5_ := zA (blk_kept (bA_ BK276) hkp (fun hs_ => Or.elim hs_ (fun e_ => (fun e_ => (Kd.R_ne HO_277000.out BK276.out (by decide)) e_) e_) (fun e0_ => Or.elim e0_ (fun e_ => (fun e_ => (Kd.R_ne HO_281000.out BK276.out (by decide)) e_) e_) (fun e1_ => Or.elim e1_ (fun e_ => NB276_280.out e_) (fun e_ => NB276_281.out e_))))); have n6_ := zA hMm; have n7_ := zA hMy; have n8_ := zA (Kd.R_mono (ok' := fun k_ => True) ho0 (fun k_ hk_ => trivial)); have n9_ := zA (hb); have mM_ := zA (blk_kept BKM.out hkp (fun hs_ => Or.elim hs_ (fun e_ => int_ne_row HS.out BKM.out (Kd.R_typed HO_277000.out) e_) (fun e0_ => Or.elim e0_ (fun e_ => int_ne_row HS.out BKM.out (Kd.R_typed HO_281000.out) e_) (fun e1_ => Or.elim e1_ (fun e_ => int_ne_cells HS.out BK280.out BKM.out e_) (fun e_ => int_ne_cells HS.out BK281.out BKM.out e_))))); clear BKM; have BKM := mM_; clear mM_; clear HO_10; clear HO_277000; clear BK266; clear BK267; clear BK268; clear BK276; clear BK280; clear BK281; clear HB; clear HO_281000; have HO_10 := n0_; have HO_277000 := n1_; have BK266 := n2_; have BK267 := n3_; have BK268 := n4_; have BK276 := n5_; have BK280 := n6_; have BK281 := n7_; have HO292 := n8_; have HB := n9_; clear n0_ n1_ n2_ n3_ n4_ n5_ n6_ n7_ n8_ n9_; (try clear hb); (try clear hkp); (try clear ho0); (try clear hy0); obtain ⟨Ao145, co145, eo145⟩ := Kd.R_slice HO292.out; subst eo145))
                 go_roundg k4
                 case measure => have := HJ4.out; have := HK2.out; have := HK3.out; have := HK4.out; omega
                 case rel => exact ⟨(x10_4), (wrap64 (x18_4 + 1)), (t293), (t290), (t289), (.slice Ao141 x277000_4.length co141), (.slice Ao145 t290.length co145), (by first | rfl | (simp; done) | (simp [*]; done)), H', ⟨by have := HJ4.out; have := HK2.out; have := HK3.out; have := HK4.out; omega⟩, ⟨bC_ HO_10⟩, ⟨bC_ HO_277000⟩, ⟨by (with_reducible repeat (first | apply zF | apply zE | apply zG)); exact Kd.R_mono HO292.out (fun _ _ => trivial)⟩, ⟨bA_ BK266⟩, ⟨bA_ BK267⟩, ⟨bA_ BK268⟩, ⟨bA_ BK276⟩, ⟨bA_ BK280⟩, ⟨bA_ BK281⟩, HYR, HYY, ⟨bA_ BKM⟩, ⟨bB_ HB⟩⟩
                ·rw [if_neg c118] at H
                 have c118b0 : decide ((rd x10_4 (ji115)) ≤ ji66) = false := decide_eq_false c118
                 clear c118
                 have H' := zA H
                 clear H
                 have hnb147 := NB267_266.out
                 have hnc147 := NB266_267.out
                 have hnb148 := NB267_268.out
                 have hnc148 := NB268_267.out
                 have hnb149 := NB267_276.out
                 have hnc149 := NB276_267.out
                 have hnb150 := NB267_280.out
                 have hnc150 := NB280_267.out
                 have hnb151 := NB267_281.out
                 have hnc151 := NB281_267.out
                 have hcz152_0 : wr.cell? ⟨gb267, 0, none⟩ = some (.int .i64 a1_0) := (blk_cell BK267.out 0).trans rfl
                 have hcz152_1 : wr.cell? ⟨gb267, 1, none⟩ = some (.int .i64 a1_1) := (blk_cell BK267.out 1).trans rfl
                 have hcz152_2 : wr.cell? ⟨gb267, 2, none⟩ = some (.slice A1_2 l1_2.length c1_2) := (blk_cell BK267.out 2).trans rfl
                 have hfz152_0 := blk_frozen BK267.out 0
                 have hfz152_1 := blk_frozen BK267.out 1
                 have hfz152_2 := blk_frozen BK267.out 2
                 obtain ⟨Ao153, co153, eo153⟩ := Kd.R_slice HO_10.out
                 subst eo153
                 have p288 : 0 ≤ ((ji115) : Int) := of_decide_eq_true (by first | (with_reducible assumption) | assumption)
                 have q288 : (ji115) < (x10_4.length : Int) := of_decide_eq_true (by first | (with_reducible assumption) | assumption)
                 obtain ⟨ad288, e288, hx288_0⟩ := Kd.at_int (zK HO_10.out).2.2 (ji115) p288 q288
                 cases e288
                 replace p288 := eq_true p288
                 replace q288 := eq_true q288
                 go_wp2
                 go_roundg k4
                 case measure => have := HJ4.out; have := HK2.out; have := HK3.out; have := HK4.out; omega
                 case rel => exact ⟨(x10_4), (wrap64 (x18_4 + 1)), (x277000_4), (x281000_4), (x282000_4), (u277000), (u281000), (by first | rfl | (simp; done) | (simp [*]; done)), H', ⟨by have := HJ4.out; have := HK2.out; have := HK3.out; have := HK4.out; omega⟩, ⟨bC_ HO_10⟩, ⟨bC_ HO_277000⟩, ⟨bC_ HO_281000⟩, ⟨bA_ BK266⟩, ⟨bA_ BK267⟩, ⟨bA_ BK268⟩, ⟨bA_ BK276⟩, ⟨bA_ BK280⟩, ⟨bA_ BK281⟩, HYR, HYY, ⟨bA_ BKM⟩, ⟨bB_ HB⟩⟩
               ·rw [if_neg c117] at H
                exact absurd H (by simp)
              ·rw [if_neg c116] at H
               exact absurd H (by simp)
            ·rw [if_neg c74] at H
             have c74b0 : decide (x18_4 < a1_0) = false := decide_eq_false c74
             clear c74
             have H' := zA H
             clear H
             have hnb154 := NB267_266.out
             have hnc154 := NB266_267.out
             have hnb155 := NB267_268.out
             have hnc155 := NB268_267.out
             have hnb156 := NB267_276.out
             have hnc156 := NB276_267.out
             have hnb157 := NB267_280.out
             have hnc157 := NB280_267.out
             have hnb158 := NB267_281.out
             have hnc158 := NB281_267.out
             have hcz159_0 : wr.cell? ⟨gb267, 0, none⟩ = some (.int .i64 a1_0) := (blk_cell BK267.out 0).trans rfl
             have hcz159_1 : wr.cell? ⟨gb267, 1, none⟩ = some (.int .i64 a1_1) := (blk_cell BK267.out 1).trans rfl
             have hcz159_2 : wr.cell? ⟨gb267, 2, none⟩ = some (.slice A1_2 l1_2.length c1_2) := (blk_cell BK267.out 2).trans rfl
             have hfz159_0 := blk_frozen BK267.out 0
             have hfz159_1 := blk_frozen BK267.out 1
             have hfz159_2 := blk_frozen BK267.out 2
             go_wp2
             go_roundg k4
             case measure => have := HJ4.out; have := HK2.out; have := HK3.out; have := HK4.out; omega
             case rel => exact ⟨(x10_4), (wrap64 (x17_3 + 1)), (x277000_4), (x281000_4), (x282000_4), (u277000), (u281000), (by first | rfl | (simp; done) | (simp [*]; done)), H', ⟨by have := HJ4.out; have := HK2.out; have := HK3.out; have := HK4.out; omega⟩, ⟨bC_ HO_10⟩, ⟨bC_ HO_277000⟩, ⟨bC_ HO_281000⟩, ⟨bA_ BK266⟩, ⟨bA_ BK267⟩, ⟨bA_ BK268⟩, ⟨bA_ BK276⟩, ⟨bA_ BK280⟩, ⟨bA_ BK281⟩, HYR, HYY, ⟨bA_ BKM⟩, ⟨bB_ HB⟩⟩
         ·rw [if_neg c67] at H
          have c67b0 : decide (x17_3 < a1_1) = false := decide_eq_false c67
          clear c67
          by_cases c160 : ji66 = 0
          ·rw [if_pos c160] at H
           have c160b0 : (ji66 == 0) = true := beq_iff_eq.mpr c160
           have c160b1 : (ji66 != 0) = false := bne_eq_false_iff_eq.mpr c160
           clear c160
           have H' := zA H
           clear H
           have hnb161 := NB267_266.out
           have hnc161 := NB266_267.out
           have hnb162 := NB267_268.out
           have hnc162 := NB268_267.out
           have hnb163 := NB267_276.out
           have hnc163 := NB276_267.out
           have hnb164 := NB267_280.out
           have hnc164 := NB280_267.out
           have hnb165 := NB267_281.out
           have hnc165 := NB281_267.out
           have hcz166_0 : wr.cell? ⟨gb267, 0, none⟩ = some (.int .i64 a1_0) := (blk_cell BK267.out 0).trans rfl
           have hcz166_1 : wr.cell? ⟨gb267, 1, none⟩ = some (.int .i64 a1_1) := (blk_cell BK267.out 1).trans rfl
           have hcz166_2 : wr.cell? ⟨gb267, 2, none⟩ = some (.slice A1_2 l1_2.length c1_2) := (blk_cell BK267.out 2).trans rfl
           have hfz166_0 := blk_frozen BK267.out 0
           have hfz166_1 := blk_frozen BK267.out 1
           have hfz166_2 := blk_frozen BK267.out 2
           go_wp2
           go_loopg [20] k3 (fun kq v20 w' => ∃ (x10_4 : List Int) (x20_4 : Int) (x277000_4 : List Int) (x281000_4 : List (S61)) (x282000_4 : Int) (u277000 : Value) (u281000 : Value), v20 = .int .i64 x20_4 ∧ Aside0 (impl_Zigzag.l3 kq x10_4 (x15_2 ++ [ji66]) x20_4 a1_0 a1_1 l1_2 a2 x277000_4 x281000_4 x282000_4 = some (r1, r2)) ∧ Aside0 (kq ≤ k3) ∧ Aside0 (Kd.R (Kd.int .i64) 3 w' w.heap.size (fun k_ => some k_ ≠ (u277000 : Value).ownBlock) v271 x10_4) ∧ Aside0 (Kd.R (Kd.int .i64) 3 w' w.heap.size (fun k_ => some k_ ≠ (v271 : Value).ownBlock) u277000 x277000_4) ∧ Aside0 (Kd.R k61 61 w' w.heap.size (fun _ => True) u281000 x281000_4) ∧ Aside0 (w'.heap[gb266]? = some (.cells #[.int .i64 a0_0, .int .i64 a0_1, (.slice A0_2 l0_2.length c0_2)] 26 (0, 0))) ∧ Aside0 (w'.heap[gb267]? = some (.cells #[.int .i64 a1_0, .int .i64 a1_1, (.slice A1_2 l1_2.length c1_2)] 26 (0, 0))) ∧ Aside0 (w'.heap[gb268]? = some (.cells #[.int .i64 a2] 3 (0, 0))) ∧ Aside0 (w'.heap[gb276]? = some (.cells #[u277000] 22 (0, 0))) ∧ Aside0 (w'.heap[gb280]? = some (.cells #[u281000] 47 (0, 0))) ∧ Aside0 (w'.heap[gb281]? = some (.cells #[.int .i64 x282000_4] 3 (0, 0))) ∧ Aside0 (some gb268 ≠ (u277000 : Value).ownBlock) ∧ Aside0 (some gb281 ≠ (u277000 : Value).ownBlock) ∧ Aside0 (w'.heap[BM]? = some om) ∧ Aside0 (Below w.heap.size w w'))
           case atStart => exact ⟨(x10_3), (0), (x277000_3), (x281000_3), (x282000_3), (u277000), (u281000), (by first | rfl | (simp; done) | (simp [*]; done)), H', ⟨Nat.le_refl _⟩, ⟨bC_ HO_10⟩, ⟨bC_ HO_277000⟩, ⟨bC_ HO_281000⟩, ⟨bA_ BK266⟩, ⟨bA_ BK267⟩, ⟨bA_ BK268⟩, ⟨bA_ BK276⟩, ⟨bA_ BK280⟩, ⟨bA_ BK281⟩, HYR, HYY, ⟨bA_ BKM⟩, ⟨bB_ HB⟩⟩
           case round =>
            clear H'
            try clear c1
            try clear c2
            try clear p2
            try clear q2
            try clear hx2
            try clear c3
            try clear c4
            try clear c5
            try clear c6
            try clear p6
            try clear c7
            try clear c8
            try clear c9
            try clear c10
            try clear c11
            try clear c11b0
            try clear c12
            try clear c13
            try clear c14
            try clear c15
            try clear c16
            try clear c19
            try clear c20
            try clear c22
            try clear c26
            try clear c27
            try clear c28
            try clear p28
            try clear q28
            try clear hx28
            try clear c29
            try clear c33
            try clear c35
            try clear c36
            try clear c37
            try clear c39
            try clear c46
            try clear c47
            try clear c48
            try clear c54
            try clear c55
            try clear c56
            try clear c57
            try clear c60
            try clear c61
            try clear c62
            try clear c63
            try clear c64
            try clear p64
            try clear c67
            try clear c67b0
            try clear c68
            try clear c69
            try clear c70
            try clear c71
            try clear c72
            try clear c74
            try clear c74b0
            try clear c75
            try clear c75b0
            try clear c75b1
            try clear c77
            try clear c77b0
            try clear c78
            try clear c78b0
            try clear c79
            try clear c79b0
            try clear c81
            try clear c82
            try clear c83
            try clear c84
            try clear c85
            try clear c88
            try clear c89
            try clear c90
            try clear c91
            try clear c93
            try clear c94
            try clear c95
            try clear c97
            try clear c98
            try clear c100
            try clear c108
            try clear c109
            try clear c110
            try clear c111
            try clear c112
            try clear c116
            try clear c116b0
            try clear c117
            try clear c117b0
            try clear c118
            try clear c118b0
            try clear c120
            try clear c121
            try clear c122
            try clear c123
            try clear c124
            try clear c127
            try clear c128
            try clear c129
            try clear c130
            try clear c132
            try clear c133
            try clear c134
            try clear c136
            try clear c137
            try clear c139
            try clear c147
            try clear c148
            try clear c149
            try clear c150
            try clear c151
            try clear c154
            try clear c155
            try clear c156
            try clear c157
            try clear c158
            try clear c160
            try clear c160b0
            try clear c160b1
            try clear c161
            try clear c162
            try clear c163
            try clear c164
            try clear c165
            try clear hcz101_0
            try clear hcz105_0
            try clear hcz107_0
            try clear hcz113_0
            try clear hcz113_1
            try clear hcz113_2
            try clear hcz125_0
            try clear hcz125_1
            try clear hcz125_2
            try clear hcz131_0
            try clear hcz135_0
            try clear hcz138_0
            try clear hcz140_0
            try clear hcz144_0
            try clear hcz146_0
            try clear hcz14_0
            try clear hcz14_1
            try clear hcz14_2
            try clear hcz152_0
            try clear hcz152_1
            try clear hcz152_2
            try clear hcz159_0
            try clear hcz159_1
            try clear hcz159_2
            try clear hcz166_0
            try clear hcz166_1
            try clear hcz166_2
            try clear hcz16_0
            try clear hcz16_1
            try clear hcz16_2
            try clear hcz17_0
            try clear hcz21_0
            try clear hcz21_1
            try clear hcz21_2
            try clear hcz23_0
            try clear hcz23_1
            try clear hcz23_2
            try clear hcz24_0
            try clear hcz28_0
            try clear hcz28_1
            try clear hcz28_2
            try clear hcz30_0
            try clear hcz30_1
            try clear hcz30_2
            try clear hcz31_0
            try clear hcz38_0
            try clear hcz38_1
            try clear hcz38_2
            try clear hcz40_0
            try clear hcz42_0
            try clear hcz42_1
            try clear hcz42_2
            try clear hcz49_0
            try clear hcz58_0
            try clear hcz65_0
            try clear hcz73_0
            try clear hcz73_1
            try clear hcz73_2
            try clear hcz86_0
            try clear hcz86_1
            try clear hcz86_2
            try clear hcz92_0
            try clear hcz96_0
            try clear hcz99_0
            try clear hfz101_0
            try clear hfz105_0
            try clear hfz107_0
            try clear hfz113_0
            try clear hfz113_1
            try clear hfz113_2
            try clear hfz125_0
            try clear hfz125_1
            try clear hfz125_2
            try clear hfz131_0
            try clear hfz135_0
            try clear hfz138_0
            try clear hfz140_0
            try clear hfz144_0
            try clear hfz146_0
            try clear hfz14_0
            try clear hfz14_1
            try clear hfz14_2
            try clear hfz152_0
            try clear hfz152_1
            try clear hfz152_2
            try clear hfz159_0
            try clear hfz159_1
            try clear hfz159_2
            try clear hfz166_0
            try clear hfz166_1
            try clear hfz166_2
            try clear hfz16_0
            try clear hfz16_1
            try clear hfz16_2
            try clear hfz17_0
            try clear hfz21_0
            try clear hfz21_1
            try clear hfz21_2
            try clear hfz23_0
            try clear hfz23_1
            try clear hfz23_2
            try clear hfz24_0
            try clear hfz28_0
            try clear hfz28_1
            try clear hfz28_2
            try clear hfz30_0
            try clear hfz30_1
            try clear hfz30_2
            try clear hfz31_0
            try clear hfz38_0
            try clear hfz38_1
            try clear hfz38_2
            try clear hfz40_0
            try clear hfz42_0
            try clear hfz42_1
            try clear hfz42_2
            try clear hfz49_0
            try clear hfz58_0
            try clear hfz65_0
            try clear hfz73_0
            try clear hfz73_1
            try clear hfz73_2
            try clear hfz86_0
            try clear hfz86_1
            try clear hfz86_2
            try clear hfz92_0
            try clear hfz96_0
            try clear hfz99_0
            try clear hx282_0
            try clear hx288_0
            try clear p2
            try clear p282
            try clear p288
            try clear p6
            try clear p64
            try clear q282
            try clear q288
            obtain ⟨x10_4, x20_4, x277000_4, x281000_4, x282000_4, u277000, u281000, rfl, HA, HK4, HO_10, HO_277000, HO_281000, BK266, BK267, BK268, BK276, BK280, BK281, HYR, HYY, BKM, HB⟩ := hrel
            cases gk with
            | zero => exact absurd HA.out (by simp [impl_Zigzag.l3])
            | succ k4 =>
             have H := HA.out
             clear HA
             simp only [impl_Zigzag.l3] at H
             by_cases c167 : x20_4 < a1_1
             ·rw [if_pos c167] at H
              have c167b0 : decide (x20_4 < a1_1) = true := decide_eq_true c167
              clear c167
              have H' := zA H
              clear H
              have hnb168 := NB267_266.out
              have hnc168 := NB266_267.out
              have hnb169 := NB267_268.out
              have hnc169 := NB268_267.out
              have hnb170 := NB267_276.out
              have hnc170 := NB276_267.out
              have hnb171 := NB267_280.out
              have hnc171 := NB280_267.out
              have hnb172 := NB267_281.out
              have hnc172 := NB281_267.out
              have hcz173_0 : wr.cell? ⟨gb267, 0, none⟩ = some (.int .i64 a1_0) := (blk_cell BK267.out 0).trans rfl
              have hcz173_1 : wr.cell? ⟨gb267, 1, none⟩ = some (.int .i64 a1_1) := (blk_cell BK267.out 1).trans rfl
              have hcz173_2 : wr.cell? ⟨gb267, 2, none⟩ = some (.slice A1_2 l1_2.length c1_2) := (blk_cell BK267.out 2).trans rfl
              have hfz173_0 := blk_frozen BK267.out 0
              have hfz173_1 := blk_frozen BK267.out 1
              have hfz173_2 := blk_frozen BK267.out 2
              go_wp2
              go_loopg [21] k4 (fun kq v21 w' => ∃ (x10_5 : List Int) (x21_5 : Int) (x277000_5 : List Int) (x281000_5 : List (S61)) (x282000_5 : Int) (u277000 : Value) (u281000 : Value), v21 = .int .i64 x21_5 ∧ Aside0 (impl_Zigzag.l4 kq x10_5 (x15_2 ++ [ji66]) x20_4 x21_5 a1_0 a1_1 l1_2 a2 x277000_5 x281000_5 x282000_5 = some (r1, r2)) ∧ Aside0 (kq ≤ k4) ∧ Aside0 (Kd.R (Kd.int .i64) 3 w' w.heap.size (fun k_ => some k_ ≠ (u277000 : Value).ownBlock) v271 x10_5) ∧ Aside0 (Kd.R (Kd.int .i64) 3 w' w.heap.size (fun k_ => some k_ ≠ (v271 : Value).ownBlock) u277000 x277000_5) ∧ Aside0 (Kd.R k61 61 w' w.heap.size (fun _ => True) u281000 x281000_5) ∧ Aside0 (w'.heap[gb266]? = some (.cells #[.int .i64 a0_0, .int .i64 a0_1, (.slice A0_2 l0_2.length c0_2)] 26 (0, 0))) ∧ Aside0 (w'.heap[gb267]? = some (.cells #[.int .i64 a1_0, .int .i64 a1_1, (.slice A1_2 l1_2.length c1_2)] 26 (0, 0))) ∧ Aside0 (w'.heap[gb268]? = some (.cells #[.int .i64 a2] 3 (0, 0))) ∧ Aside0 (w'.heap[gb276]? = some (.cells #[u277000] 22 (0, 0))) ∧ Aside0 (w'.heap[gb280]? = some (.cells #[u281000] 47 (0, 0))) ∧ Aside0 (w'.heap[gb281]? = some (.cells #[.int .i64 x282000_5] 3 (0, 0))) ∧ Aside0 (some gb268 ≠ (u277000 : Value).ownBlock) ∧ Aside0 (some gb281 ≠ (u277000 : Value).ownBlock) ∧ Aside0 (w'.heap[BM]? = some om) ∧ Aside0 (Below w.heap.size w w'))
              case atStart => exact ⟨(x10_4), (0), (x277000_4), (x281000_4), (x282000_4), (u277000), (u281000), (by first | rfl | (simp; done) | (simp [*]; done)), H', ⟨Nat.le_refl _⟩, ⟨bC_ HO_10⟩, ⟨bC_ HO_277000⟩, ⟨bC_ HO_281000⟩, ⟨bA_ BK266⟩, ⟨bA_ BK267⟩, ⟨bA_ BK268⟩, ⟨bA_ BK276⟩, ⟨bA_ BK280⟩, ⟨bA_ BK281⟩, HYR, HYY, ⟨bA_ BKM⟩, ⟨bB_ HB⟩⟩
              case round =>
               clear H'
               try clear c1
               try clear c2
               try clear p2
               try clear q2
               try clear hx2
               try clear c3
               try clear c4
               try clear c5
               try clear c6
               try clear p6
               try clear c7
               try clear c8
               try clear c9
               try clear c10
               try clear c11
               try clear c11b0
               try clear c12
               try clear c13
               try clear c14
               try clear c15
               try clear c16
               try clear c17
               try clear c19
               try clear c20
               try clear c22
               try clear c26
               try clear c27
               try clear c28
               try clear p28
               try clear q28
               try clear hx28
               try clear c29
               try clear c33
               try clear c35
               try clear c36
               try clear c37
               try clear c39
               try clear c46
               try clear c47
               try clear c48
               try clear c54
               try clear c55
               try clear c56
               try clear c57
               try clear c60
               try clear c61
               try clear c62
               try clear c63
               try clear c64
               try clear p64
               try clear c67
               try clear c67b0
               try clear c68
               try clear c69
               try clear c70
               try clear c71
               try clear c72
               try clear c74
               try clear c74b0
               try clear c75
               try clear c75b0
               try clear c75b1
               try clear c77
               try clear c77b0
               try clear c78
               try clear c78b0
               try clear c79
               try clear c79b0
               try clear c81
               try clear c82
               try clear c83
               try clear c84
               try clear c85
               try clear c88
               try clear c89
               try clear c90
               try clear c91
               try clear c93
               try clear c94
               try clear c95
               try clear c97
               try clear c98
               try clear c100
               try clear c108
               try clear c109
               try clear c110
               try clear c111
               try clear c112
               try clear c116
               try clear c116b0
               try clear c117
               try clear c117b0
               try clear c118
               try clear c118b0
               try clear c120
               try clear c121
               try clear c122
               try clear c123
               try clear c124
               try clear c127
               try clear c128
               try clear c129
               try clear c130
               try clear c132
               try clear c133
               try clear c134
               try clear c136
               try clear c137
               try clear c139
               try clear c147
               try clear c148
               try clear c149
               try clear c150
               try clear c151
               try clear c154
               try clear c155
               try clear c156
               try clear c157
               try clear c158
               try clear c160
               try clear c160b0
               try clear c160b1
               try clear c161
               try clear c162
               try clear c163
               try clear c164
               try clear c165
               try clear c167
               try clear c167b0
               try clear c168
               try clear c169
               try clear c170
               try clear c171
               try clear c172
               try clear hcz101_0
               try clear hcz105_0
               try clear hcz107_0
               try clear hcz113_0
               try clear hcz113_1
               try clear hcz113_2
               try clear hcz125_0
               try clear hcz125_1
               try clear hcz125_2
               try clear hcz131_0
               try clear hcz135_0
               try clear hcz138_0
               try clear hcz140_0
               try clear hcz144_0
               try clear hcz146_0
               try clear hcz14_0
               try clear hcz14_1
               try clear hcz14_2
               try clear hcz152_0
               try clear hcz152_1
               try clear hcz152_2
               try clear hcz159_0
               try clear hcz159_1
               try clear hcz159_2
               try clear hcz166_0
               try clear hcz166_1
               try clear hcz166_2
               try clear hcz16_0
               try clear hcz16_1
               try clear hcz16_2
               try clear hcz173_0
               try clear hcz173_1
               try clear hcz173_2
               try clear hcz17_0
               try clear hcz21_0
               try clear hcz21_1
               try clear hcz21_2
               try clear hcz23_0
               try clear hcz23_1
               try clear hcz23_2
               try clear hcz24_0
               try clear hcz28_0
               try clear hcz28_1
               try clear hcz28_2
               try clear hcz30_0
               try clear hcz30_1
               try clear hcz30_2
               try clear hcz31_0
               try clear hcz38_0
               try clear hcz38_1
               try clear hcz38_2
               try clear hcz40_0
               try clear hcz42_0
               try clear hcz42_1
               try clear hcz42_2
               try clear hcz49_0
               try clear hcz58_0
               try clear hcz65_0
               try clear hcz73_0
               try clear hcz73_1
               try clear hcz73_2
               try clear hcz86_0
               try clear hcz86_1
               try clear hcz86_2
               try clear hcz92_0
               try clear hcz96_0
               try clear hcz99_0
               try clear hfz101_0
               try clear hfz105_0
               try clear hfz107_0
               try clear hfz113_0
               try clear hfz113_1
               try clear hfz113_2
               try clear hfz125_0
               try clear hfz125_1
               try clear hfz125_2
               try clear hfz131_0
               try clear hfz135_0
               try clear hfz138_0
               try clear hfz140_0
               try clear hfz144_0
               try clear hfz146_0
               try clear hfz14_0
               try clear hfz14_1
               try clear hfz14_2
               try clear hfz152_0
               try clear hfz152_1
               try clear hfz152_2
               try clear hfz159_0
               try clear hfz159_1
               try clear hfz159_2
               try clear hfz166_0
               try clear hfz166_1
               try clear hfz166_2
               try clear hfz16_0
               try clear hfz16_1
               try clear hfz16_2
               try clear hfz173_0
               try clear hfz173_1
               try clear hfz173_2
               try clear hfz17_0
               try clear hfz21_0
               try clear hfz21_1
               try clear hfz21_2
               try clear hfz23_0
               try clear hfz23_1
               try clear hfz23_2
               try clear hfz24_0
               try clear hfz28_0
               try clear hfz28_1
               try clear hfz28_2
               try clear hfz30_0
               try clear hfz30_1
               try clear hfz30_2
               try clear hfz31_0
               try clear hfz38_0
               try clear hfz38_1
               try clear hfz38_2
               try clear hfz40_0
               try clear hfz42_0
               try clear hfz42_1
               try clear hfz42_2
               try clear hfz49_0
               try clear hfz58_0
               try clear hfz65_0
               try clear hfz73_0
               try clear hfz73_1
               try clear hfz73_2
               try clear hfz86_0
               try clear hfz86_1
               try clear hfz86_2
               try clear hfz92_0
               try clear hfz96_0
               try clear hfz99_0
               try clear hx282_0
               try clear hx288_0
               try clear p2
               try clear p28
               try clear p282
               try clear p288
               try clear p6
               try clear p64
               try clear q2
               try clear q28
               try clear q282
               try clear q288
               obtain ⟨x10_5, x21_5, x277000_5, x281000_5, x282000_5, u277000, u281000, rfl, HA, HK5, HO_10, HO_277000, HO_281000, BK266, BK267, BK268, BK276, BK280, BK281, HYR, HYY, BKM, HB⟩ := hrel
               cases gk with
               | zero => exact absurd HA.out (by simp [impl_Zigzag.l4])
               | succ k5 =>
                have H := HA.out
                clear HA
                simp only [impl_Zigzag.l4] at H
                by_cases c174 : x21_5 < a1_0
                ·rw [if_pos c174] at H
                 have c174b0 : decide (x21_5 < a1_0) = true := decide_eq_true c174
                 clear c174
                 obtain ⟨ji175, hji175⟩ : ∃ j_ : Int, (wrap64 ((wrap64 (x20_4 * a1_0)) + x21_5)) = j_ := ⟨_, rfl⟩
                 replace H : (if 0 ≤ (ji175) then (if (ji175) < (x10_5.length : Int) then (if Small (rd x10_5 (ji175)) then (if inI (x15_2 ++ [ji66]) (rd x10_5 (ji175)) = true then (impl_Zigzag.l4 k5 x10_5 (x15_2 ++ [ji66]) x20_4 (wrap64 (x21_5 + 1)) a1_0 a1_1 l1_2 a2 x277000_5 x281000_5 x282000_5) else ((impl_Zigzag_1.f k5 x21_5 x20_4 (rd x10_5 (ji175)) a1_0 a1_1 l1_2 a2 x277000_5 x281000_5 x282000_5).bind fun bt295 => (impl_Zigzag.l4 k5 x10_5 (x15_2 ++ [ji66]) x20_4 (wrap64 (x21_5 + 1)) a1_0 a1_1 l1_2 a2 bt295.2.2 bt295.2.1 bt295.1))) else (none)) else (none)) else (none)) = some (r1, r2) := by first | (rw [hji175] at H; exact H) | (simp only [hji175] at H ⊢; exact H)
                 have hji175w : (IntKind.i64.wrap ((wrap64 (x20_4 * a1_0)) + x21_5)) = ji175 := (i64_w _).trans hji175
                 by_cases c176 : 0 ≤ (ji175)
                 ·rw [if_pos c176] at H
                  have c176b0 : decide (0 ≤ (ji175)) = true := decide_eq_true c176
                  clear c176
                  by_cases c177 : (ji175) < (x10_5.length : Int)
                  ·rw [if_pos c177] at H
                   have c177b0 : decide ((ji175) < (x10_5.length : Int)) = true := decide_eq_true c177
                   clear c177
                   have cKz : Small (rd x10_5 (ji175)) := Decidable.byContradiction fun hn_ => by rw [if_neg hn_] at H; exact absurd H (by simp)
                   rw [if_pos cKz] at H
                   have KZ := zA cKz
                   clear cKz
                   by_cases c178 : inI (x15_2 ++ [ji66]) (rd x10_5 (ji175)) = true
                   ·rw [if_pos c178] at H
                    have c178b0 : inI (x15_2 ++ [ji66]) (rd x10_5 (ji175)) = true := c178
                    clear c178
                    have H' := zA H
                    clear H
                    have hnb179 := NB267_266.out
                    have hnc179 := NB266_267.out
                    have hnb180 := NB267_268.out
                    have hnc180 := NB268_267.out
                    have hnb181 := NB267_276.out
                    have hnc181 := NB276_267.out
                    have hnb182 := NB267_280.out
                    have hnc182 := NB280_267.out
                    have hnb183 := NB267_281.out
                    have hnc183 := NB281_267.out
                    have hcz184_0 : wr.cell? ⟨gb267, 0, none⟩ = some (.int .i64 a1_0) := (blk_cell BK267.out 0).trans rfl
                    have hcz184_1 : wr.cell? ⟨gb267, 1, none⟩ = some (.int .i64 a1_1) := (blk_cell BK267.out 1).trans rfl
                    have hcz184_2 : wr.cell? ⟨gb267, 2, none⟩ = some (.slice A1_2 l1_2.length c1_2) := (blk_cell BK267.out 2).trans rfl
                    have hfz184_0 := blk_frozen BK267.out 0
                    have hfz184_1 := blk_frozen BK267.out 1
                    have hfz184_2 := blk_frozen BK267.out 2
                    obtain ⟨Ao185, co185, eo185⟩ := Kd.R_slice HO_10.out
                    subst eo185
                    have p294 : 0 ≤ ((ji175) : Int) := of_decide_eq_true (by first | (with_reducible assumption) | assumption)
                    have q294 : (ji175) < (x10_5.length : Int) := of_decide_eq_true (by first | (with_reducible assumption) | assumption)
                    obtain ⟨ad294, e294, hx294_0⟩ := Kd.at_int (zK HO_10.out).2.2 (ji175) p294 q294
                    cases e294
                    replace p294 := eq_true p294
                    replace q294 := eq_true q294
                    go_wp2_with (first | ((with_reducible refine gate_ (Op.lookup 81 (.tmp 115) (.tmp 116) false) rfl ?_); (try (refine gate_guard (by rfl) ?_; dsimp only)); refine wpList_lookup_int rfl rfl Try.underlying3 Try.underlying81 Try.underlying4 rfl BM (x15_2 ++ [ji66]) om BKM.out HS.out (rd x10_5 (ji175)) KZ.out rfl (by first | rfl | (go_simp; done) | (go_simp; rfl)) ?_; (try rw [c178b0])))
                    go_roundg k5
                    case measure => have := HJ4.out; have := HK2.out; have := HK3.out; have := HK4.out; have := HK5.out; omega
                    case rel => exact ⟨(x10_5), (wrap64 (x21_5 + 1)), (x277000_5), (x281000_5), (x282000_5), (u277000), (u281000), (by first | rfl | (simp; done) | (simp [*]; done)), H', ⟨by have := HJ4.out; have := HK2.out; have := HK3.out; have := HK4.out; have := HK5.out; omega⟩, ⟨bC_ HO_10⟩, ⟨bC_ HO_277000⟩, ⟨bC_ HO_281000⟩, ⟨bA_ BK266⟩, ⟨bA_ BK267⟩, ⟨bA_ BK268⟩, ⟨bA_ BK276⟩, ⟨bA_ BK280⟩, ⟨bA_ BK281⟩, HYR, HYY, ⟨bA_ BKM⟩, ⟨bB_ HB⟩⟩
                   ·rw [if_neg c178] at H
                    have c178b0 : inI (x15_2 ++ [ji66]) (rd x10_5 (ji175)) = false := Bool.eq_false_iff.mpr c178
                    clear c178
                    replace H := Option.bind_eq_some_iff.mp H
                    obtain ⟨⟨t295, t296, t299⟩, A1860, H⟩ := H
                    replace H : (impl_Zigzag.l4 k5 x10_5 (x15_2 ++ [ji66]) x20_4 (wrap64 (x21_5 + 1)) a1_0 a1_1 l1_2 a2 t299 t296 t295) = some (r1, r2) := H
                    have A186 := zA A1860
                    clear A1860
                    have H' := zA H
                    clear H
                    have hnb187 := NB267_266.out
                    have hnc187 := NB266_267.out
                    have hnb188 := NB267_268.out
                    have hnc188 := NB268_267.out
                    have hnb189 := NB267_276.out
                    have hnc189 := NB276_267.out
                    have hnb190 := NB267_280.out
                    have hnc190 := NB280_267.out
                    have hnb191 := NB267_281.out
                    have hnc191 := NB281_267.out
                    have hcz192_0 : wr.cell? ⟨gb267, 0, none⟩ = some (.int .i64 a1_0) := (blk_cell BK267.out 0).trans rfl
                    have hcz192_1 : wr.cell? ⟨gb267, 1, none⟩ = some (.int .i64 a1_1) := (blk_cell BK267.out 1).trans rfl
                    have hcz192_2 : wr.cell? ⟨gb267, 2, none⟩ = some (.slice A1_2 l1_2.length c1_2) := (blk_cell BK267.out 2).trans rfl
                    have hfz192_0 := blk_frozen BK267.out 0
                    have hfz192_1 := blk_frozen BK267.out 1
                    have hfz192_2 := blk_frozen BK267.out 2
                    obtain ⟨Ao193, co193, eo193⟩ := Kd.R_slice HO_10.out
                    subst eo193
                    have p294 : 0 ≤ ((ji175) : Int) := of_decide_eq_true (by first | (with_reducible assumption) | assumption)
                    have q294 : (ji175) < (x10_5.length : Int) := of_decide_eq_true (by first | (with_reducible assumption) | assumption)
                    obtain ⟨ad294, e294, hx294_0⟩ := Kd.at_int (zK HO_10.out).2.2 (ji175) p294 q294
                    cases e294
                    replace p294 := eq_true p294
                    replace q294 := eq_true q294
                    have hnb194 := NB268_266.out
                    have hnc194 := NB266_268.out
                    have hnb195 := NB268_276.out
                    have hnc195 := NB276_268.out
                    have hnb196 := NB268_280.out
                    have hnc196 := NB280_268.out
                    have hnb197 := NB268_281.out
                    have hnc197 := NB281_268.out
                    have hcz198_0 : wr.cell? ⟨gb268, 0, none⟩ = some (.int .i64 a2) := (blk_cell BK268.out 0).trans rfl
                    have hfz198_0 := blk_frozen BK268.out 0
                    have hnb199 := NB276_266.out
                    have hnc199 := NB266_276.out
                    have hnb200 := NB276_280.out
                    have hnc200 := NB280_276.out
                    have hnb201 := NB276_281.out
                    have hnc201 := NB281_276.out
                    have hcz202_0 : wr.cell? ⟨gb276, 0, none⟩ = some (u277000) := (blk_cell BK276.out 0).trans rfl
                    have hfz202_0 := blk_frozen BK276.out 0
                    have hnb203 := NB280_266.out
                    have hnc203 := NB266_280.out
                    have hnb204 := NB280_281.out
                    have hnc204 := NB281_280.out
                    have hcz205_0 : wr.cell? ⟨gb280, 0, none⟩ = some (u281000) := (blk_cell BK280.out 0).trans rfl
                    have hfz205_0 := blk_frozen BK280.out 0
                    have hnb206 := NB281_266.out
                    have hnc206 := NB266_281.out
                    have hcz207_0 : wr.cell? ⟨gb281, 0, none⟩ = some (.int .i64 x282000_5) := (blk_cell BK281.out 0).trans rfl
                    have hfz207_0 := blk_frozen BK281.out 0
                    obtain ⟨Ao208, co208, eo208⟩ := Kd.R_slice HO_277000.out
                    subst eo208
                    obtain ⟨Ao209, co209, eo209⟩ := Kd.R_slice HO_281000.out
                    subst eo209
                    go_wp2_with (first | ((with_reducible refine gate_value (c := .tmp 119) rfl ?_); refine goesV_ (cap := #[.pointer (some ⟨gb267, 0, none⟩), .pointer (some ⟨gb268, 0, none⟩), .pointer (some ⟨gb276, 0, none⟩), .pointer (some ⟨gb280, 0, none⟩), .pointer (some ⟨gb281, 0, none⟩)]) (some 123) rfl rfl Try.func61 (by kernel_rfl) rfl #[.int .i64 x21_5, .int .i64 x20_4, .int .i64 (rd x10_5 (ji175)), .pointer (some ⟨gb267, 0, none⟩), .pointer (some ⟨gb268, 0, none⟩), .pointer (some ⟨gb276, 0, none⟩), .pointer (some ⟨gb280, 0, none⟩), .pointer (some ⟨gb281, 0, none⟩)] rfl (by first | rfl | (go_simp; done)) (by first | (go_simp; done) | ((try simp only [List.map_toArray, List.map_cons, List.map_nil, List.append_toArray, List.cons_append, List.nil_append]); first | done | rfl | (simp only [hji66]; rfl))) ?_; (with_reducible refine (impl_Zigzag_1.calls k5 x21_5 x20_4 (rd x10_5 (ji175)) a1_0 a1_1 A1_2 c1_2 l1_2 a2 (fun k_ => some k_ = (.slice Ao208 x277000_5.length co208 : Value).ownBlock) (.slice Ao208 x277000_5.length co208) x277000_5 (fun k_ => some k_ = (.slice Ao209 x281000_5.length co209 : Value).ownBlock ∨ k_ = gb280 ∨ k_ = gb281) (.slice Ao209 x281000_5.length co209) x281000_5 x282000_5 t295 t296 t299 w _ ?side1 ?side2 ?side3 ?side4 ?side5 gb267 ?sM0 GE267.out gb268 ?sM1 GE268.out gb276 ?sM2 GE276.out gb280 ?sM3 GE280.out gb281 ?sM4 GE281.out (.inr (.inl rfl)) (.inr (.inr rfl)) HYR.out HYY.out NB268_281.out A186.out).mono ?_); (case side1 => repeat (first | (with_reducible first | exact HB.out | apply zR | apply zP | apply zQ | refine zS ?_ GE266.out | refine zS ?_ GE267.out | refine zS ?_ GE268.out | refine zS ?_ GE276.out | refine zS ?_ GE280.out | refine zS ?_ GE281.out) | exact HB.out)); (case side2 => exact Kd.C_kept_came (Kd.heap_int .i64) HR1_2.out (bB_ HB) (fun k_ hs_ => Or.elim hs_ (fun e_ => (fun e_ => Kd.R_base HO_277000.out k_ e_.symm) e_) (fun e0_ => Or.elim e0_ (fun e_ => (fun e_ => Kd.R_base HO_281000.out k_ e_.symm) e_) (fun e1_ => Or.elim e1_ (fun e_ => by rw [e_]; exact GE280.out) (fun e_ => by rw [e_]; exact GE281.out))))); (case side3 => exact HC1_2.out); (case side4 => exact Kd.R_tight rfl HO_277000.out); (case side5 => exact Kd.R_mono (Kd.R_tight rfl HO_281000.out) (fun _ h_ => .inl h_)); (case sM0 => (with_reducible repeat (first | refine zM ?_ _ | refine zN ?_ | refine zO ?_ _)); exact BK267.out); (case sM1 => (with_reducible repeat (first | refine zM ?_ _ | refine zN ?_ | refine zO ?_ _)); exact BK268.out); (case sM2 => (with_reducible repeat (first | refine zM ?_ _ | refine zN ?_ | refine zO ?_ _)); exact BK276.out); (case sM3 => (with_reducible repeat (first | refine zM ?_ _ | refine zN ?_ | refine zO ?_ _)); exact BK280.out); (case sM4 => (with_reducible repeat (first | refine zM ?_ _ | refine zN ?_ | refine zO ?_ _)); exact BK281.out); rintro e w210 ⟨v297, rfl, hMm, hMy, ho0, hy0, hb, hkp⟩; refine ⟨_, rfl, ?_⟩; have n0_ := zA (Kd.R_mono (ok' := fun k_ => some k_ ≠ (.slice Ao208 x277000_5.length co208 : Value).ownBlock) (Kd.R_keptB (Kd.R_far1 (Kd.R_types ((Kd.R_apart' HO_10.out (Kd.R_typed HO_281000.out) (by decide))) BK280.out (by decide)) rfl NRY.out) hkp (fun k_ hk_ hs_ => Or.elim hs_ (fun e_ => (hk_.1.1.1) e_) (fun e0_ => Or.elim e0_ (fun e_ => (hk_.1.1.2) e_) (fun e1_ => Or.elim e1_ (fun e_ => hk_.1.2 e_) (fun e_ => hk_.2 e_))))) (fun k_ hk_ => hk_.1.1.1.1)); have n1_ := zA (Kd.R_reok rfl hy0 (fun k_ e_ => HO_277000.out.1 k_ e_)); have n2_ := zA (blk_kept (bA_ BK266) hkp (fun hs_ => Or.elim hs_ (fun e_ => (fun e_ => (Kd.R_ne HO_277000.out BK266.out (by decide)) e_) e_) (fun e0_ => Or.elim e0_ (fun e_ => (fun e_ => (Kd.R_ne HO_281000.out BK266.out (by decide)) e_) e_) (fun e1_ => Or.elim e1_ (fun e_ => NB266_280.out e_) (fun e_ => NB266_281.out e_))))); have n3_ := zA (blk_kept (bA_ BK267) hkp (fun hs_ => Or.elim hs_ (fun e_ => (fun e_ => (Kd.R_ne HO_277000.out BK267.out (by decide)) e_) e_) (fun e0_ => Or.elim e0_ (fun e_ => (fun e_ => (Kd.R_ne HO_281000.out BK267.out (by decide)) e_) e_) (fun e1_ => Or.elim e1_ (fun e_ => NB267_280.out e_) (fun e_ => NB267_281.out e_))))); have n4_ := zA (blk_kept (bA_ BK268) hkp (fun hs_ => Or.elim hs_ (fun e_ => HYR.out e_) (fun e0_ => Or.elim e0_ (fun e_ => (fun e_ => (Kd.R_ne HO_281000.out BK268.out (by decide)) e_) e_) (fun e1_ => Or.elim e1_ (fun e_ => NB268_280.out e_) (fun e_ => NB268_281.out e_))))); have n5_ := zA (blk_kept (bA_ BK276) hkp (fun hs_ => Or.elim hs_ (fun e_ => (fun e_ => (Kd.R_ne HO_277000.out BK276.out (by decide)) e_) e_) (fun e0_ => Or.elim e0_ (fun e_ => (fun e_ => (Kd.R_ne HO_281000.out BK276.out (by decide)) e_) e_) (fun e1_ => Or.elim e1_ (fun e_ => NB276_280.out e_) (fun e_ => NB276_281.out e_))))); have n6_ := zA hMm; have n7_ := zA hMy; have n8_ := zA (Kd.R_mono (ok' := fun k_ => True) ho0 (fun k_ hk_ => trivial)); have n9_ := zA (hb); have mM_ := zA (blk_kept BKM.out hkp (fun hs_ => Or.elim hs_ (fun e_ => int_ne_row HS.out BKM.out (Kd.R_typed HO_277000.out) e_) (fun e0_ => Or.elim e0_ (fun e_ => int_ne_row HS.out BKM.out (Kd.R_typed HO_281000.out) e_) (fun e1_ => Or.elim e1_ (fun e_ => int_ne_cells HS.out BK280.out BKM.out e_) (fun e_ => int_ne_cells HS.out BK281.out BKM.out e_))))); clear BKM; have BKM := mM_; clear mM_; clear HO_10; clear HO_277000; clear BK266; clear BK267; clear BK268; clear BK276; clear BK280; clear BK281; clear HB; clear HO_281000; have HO_10 := n0_; have HO_277000 := n1_; have BK266 := n2_; have BK267 := n3_; have BK268 := n4_; have BK276 := n5_; have BK280 := n6_; have BK281 := n7_; have HO298 := n8_; have HB := n9_; clear n0_ n1_ n2_ n3_ n4_ n5_ n6_ n7_ n8_ n9_; (try clear hb); (try clear hkp); (try clear ho0); (try clear hy0); obtain ⟨Ao212, co212, eo212⟩ := Kd.R_slice HO298.out; subst eo212) | ((with_reducible refine gate_ (Op.lookup 81 (.tmp 115) (.tmp 116) false) rfl ?_); (try (refine gate_guard (by rfl) ?_; dsimp only)); refine wpList_lookup_int rfl rfl Try.underlying3 Try.underlying81 Try.underlying4 rfl BM (x15_2 ++ [ji66]) om BKM.out HS.out (rd x10_5 (ji175)) KZ.out rfl (by first | rfl | (go_simp; done) | (go_simp; rfl)) ?_; (try rw [c178b0])))
                    go_roundg k5
                    case measure => have := HJ4.out; have := HK2.out; have := HK3.out; have := HK4.out; have := HK5.out; omega
                    case rel => exact ⟨(x10_5), (wrap64 (x21_5 + 1)), (t299), (t296), (t295), (.slice Ao208 x277000_5.length co208), (.slice Ao212 t296.length co212), (by first | rfl | (simp; done) | (simp [*]; done)), H', ⟨by have := HJ4.out; have := HK2.out; have := HK3.out; have := HK4.out; have := HK5.out; omega⟩, ⟨bC_ HO_10⟩, ⟨bC_ HO_277000⟩, ⟨by (with_reducible repeat (first | apply zF | apply zE | apply zG)); exact Kd.R_mono HO298.out (fun _ _ => trivial)⟩, ⟨bA_ BK266⟩, ⟨bA_ BK267⟩, ⟨bA_ BK268⟩, ⟨bA_ BK276⟩, ⟨bA_ BK280⟩, ⟨bA_ BK281⟩, HYR, HYY, ⟨bA_ BKM⟩, ⟨bB_ HB⟩⟩
                  ·rw [if_neg c177] at H
                   exact absurd H (by simp)
                 ·rw [if_neg c176] at H
                  exact absurd H (by simp)
                ·rw [if_neg c174] at H
                 have c174b0 : decide (x21_5 < a1_0) = false := decide_eq_false c174
                 clear c174
                 have H' := zA H
                 clear H
                 have hnb214 := NB267_266.out
                 have hnc214 := NB266_267.out
                 have hnb215 := NB267_268.out
                 have hnc215 := NB268_267.out
                 have hnb216 := NB267_276.out
                 have hnc216 := NB276_267.out
                 have hnb217 := NB267_280.out
                 have hnc217 := NB280_267.out
                 have hnb218 := NB267_281.out
                 have hnc218 := NB281_267.out
                 have hcz219_0 : wr.cell? ⟨gb267, 0, none⟩ = some (.int .i64 a1_0) := (blk_cell BK267.out 0).trans rfl
                 have hcz219_1 : wr.cell? ⟨gb267, 1, none⟩ = some (.int .i64 a1_1) := (blk_cell BK267.out 1).trans rfl
                 have hcz219_2 : wr.cell? ⟨gb267, 2, none⟩ = some (.slice A1_2 l1_2.length c1_2) := (blk_cell BK267.out 2).trans rfl
                 have hfz219_0 := blk_frozen BK267.out 0
                 have hfz219_1 := blk_frozen BK267.out 1
                 have hfz219_2 := blk_frozen BK267.out 2
                 go_wp2
                 go_roundg k5
                 case measure => have := HJ4.out; have := HK2.out; have := HK3.out; have := HK4.out; have := HK5.out; omega
                 case rel => exact ⟨(x10_5), (wrap64 (x20_4 + 1)), (x277000_5), (x281000_5), (x282000_5), (u277000), (u281000), (by first | rfl | (simp; done) | (simp [*]; done)), H', ⟨by have := HJ4.out; have := HK2.out; have := HK3.out; have := HK4.out; have := HK5.out; omega⟩, ⟨bC_ HO_10⟩, ⟨bC_ HO_277000⟩, ⟨bC_ HO_281000⟩, ⟨bA_ BK266⟩, ⟨bA_ BK267⟩, ⟨bA_ BK268⟩, ⟨bA_ BK276⟩, ⟨bA_ BK280⟩, ⟨bA_ BK281⟩, HYR, HYY, ⟨bA_ BKM⟩, ⟨bB_ HB⟩⟩
             ·rw [if_neg c167] at H
              have c167b0 : decide (x20_4 < a1_1) = false := decide_eq_false c167
              clear c167
              by_cases c220 : (x281000_4.length : Int) > 2000
              ·rw [if_pos c220] at H
               have c220b0 : decide (2000 < (x281000_4.length : Int)) = true := decide_eq_true c220
               have c220b1 : decide (2000 < x281000_4.length) = true := decide_eq_true (by omega)
               clear c220
               simp only [Option.some.injEq, Prod.mk.injEq] at H
               obtain ⟨rfl, rfl⟩ := H
               have hnb221 := NB267_266.out
               have hnc221 := NB266_267.out
               have hnb222 := NB267_268.out
               have hnc222 := NB268_267.out
               have hnb223 := NB267_276.out
               have hnc223 := NB276_267.out
               have hnb224 := NB267_280.out
               have hnc224 := NB280_267.out
               have hnb225 := NB267_281.out
               have hnc225 := NB281_267.out
               have hcz226_0 : wr.cell? ⟨gb267, 0, none⟩ = some (.int .i64 a1_0) := (blk_cell BK267.out 0).trans rfl
               have hcz226_1 : wr.cell? ⟨gb267, 1, none⟩ = some (.int .i64 a1_1) := (blk_cell BK267.out 1).trans rfl
               have hcz226_2 : wr.cell? ⟨gb267, 2, none⟩ = some (.slice A1_2 l1_2.length c1_2) := (blk_cell BK267.out 2).trans rfl
               have hfz226_0 := blk_frozen BK267.out 0
               have hfz226_1 := blk_frozen BK267.out 1
               have hfz226_2 := blk_frozen BK267.out 2
               have hnb227 := NB280_266.out
               have hnc227 := NB266_280.out
               have hnb228 := NB280_268.out
               have hnc228 := NB268_280.out
               have hnb229 := NB280_276.out
               have hnc229 := NB276_280.out
               have hnb230 := NB280_281.out
               have hnc230 := NB281_280.out
               have hcz231_0 : wr.cell? ⟨gb280, 0, none⟩ = some (u281000) := (blk_cell BK280.out 0).trans rfl
               have hfz231_0 := blk_frozen BK280.out 0
               obtain ⟨Ao232, co232, eo232⟩ := Kd.R_slice HO_281000.out
               subst eo232
               go_wp2
               go_ret2
               exact ⟨_, by first | rfl | (simp [errW_none, errW_some] <;> rfl) | (simp only [← hji66]; first | rfl | (simp [errW_none, errW_some] <;> rfl)) | (simp [*, errW_none, errW_some] <;> rfl), by first | exact Kd.R_nil _ _ _ _ _ | exact Kd.N_nil _ _ _ _ _ | exact Kd.V_nil _ _ _ _ _ | exact Kd.Q_nil _ _ _ _ _ | exact Kd.S_nil _ _ _ _ _, bB_ HB⟩
              ·rw [if_neg c220] at H
               have c220b0 : decide (2000 < (x281000_4.length : Int)) = false := decide_eq_false c220
               have c220b1 : decide (2000 < x281000_4.length) = false := decide_eq_false (by omega)
               clear c220
               simp only [Option.some.injEq, Prod.mk.injEq] at H
               obtain ⟨rfl, rfl⟩ := H
               have hnb233 := NB267_266.out
               have hnc233 := NB266_267.out
               have hnb234 := NB267_268.out
               have hnc234 := NB268_267.out
               have hnb235 := NB267_276.out
               have hnc235 := NB276_267.out
               have hnb236 := NB267_280.out
               have hnc236 := NB280_267.out
               have hnb237 := NB267_281.out
               have hnc237 := NB281_267.out
               have hcz238_0 : wr.cell? ⟨gb267, 0, none⟩ = some (.int .i64 a1_0) := (blk_cell BK267.out 0).trans rfl
               have hcz238_1 : wr.cell? ⟨gb267, 1, none⟩ = some (.int .i64 a1_1) := (blk_cell BK267.out 1).trans rfl
               have hcz238_2 : wr.cell? ⟨gb267, 2, none⟩ = some (.slice A1_2 l1_2.length c1_2) := (blk_cell BK267.out 2).trans rfl
               have hfz238_0 := blk_frozen BK267.out 0
               have hfz238_1 := blk_frozen BK267.out 1
               have hfz238_2 := blk_frozen BK267.out 2
               have hnb239 := NB280_266.out
               have hnc239 := NB266_280.out
               have hnb240 := NB280_268.out
               have hnc240 := NB268_280.out
               have hnb241 := NB280_276.out
               have hnc241 := NB276_280.out
               have hnb242 := NB280_281.out
               have hnc242 := NB281_280.out
               have hcz243_0 : wr.cell? ⟨gb280, 0, none⟩ = some (u281000) := (blk_cell BK280.out 0).trans rfl
               have hfz243_0 := blk_frozen BK280.out 0
               obtain ⟨Ao244, co244, eo244⟩ := Kd.R_slice HO_281000.out
               subst eo244
               go_wp2
               go_ret2
               exact ⟨_, by first | rfl | (simp [errW_none, errW_some] <;> rfl) | (simp only [← hji66]; first | rfl | (simp [errW_none, errW_some] <;> rfl)) | (simp [*, errW_none, errW_some] <;> rfl), bC_ HO_281000, bB_ HB⟩
          ·rw [if_neg c160] at H
           have c160b0 : (ji66 == 0) = false := beq_eq_false_iff_ne.mpr c160
           have c160b1 : (ji66 != 0) = true := bne_iff_ne.mpr c160
           have H' := zA H
           clear H
           have hnb245 := NB267_266.out
           have hnc245 := NB266_267.out
           have hnb246 := NB267_268.out
           have hnc246 := NB268_267.out
           have hnb247 := NB267_276.out
           have hnc247 := NB276_267.out
           have hnb248 := NB267_280.out
           have hnc248 := NB280_267.out
           have hnb249 := NB267_281.out
           have hnc249 := NB281_267.out
           have hcz250_0 : wr.cell? ⟨gb267, 0, none⟩ = some (.int .i64 a1_0) := (blk_cell BK267.out 0).trans rfl
           have hcz250_1 : wr.cell? ⟨gb267, 1, none⟩ = some (.int .i64 a1_1) := (blk_cell BK267.out 1).trans rfl
           have hcz250_2 : wr.cell? ⟨gb267, 2, none⟩ = some (.slice A1_2 l1_2.length c1_2) := (blk_cell BK267.out 2).trans rfl
           have hfz250_0 := blk_frozen BK267.out 0
           have hfz250_1 := blk_frozen BK267.out 1
           have hfz250_2 := blk_frozen BK267.out 2
           go_wp2
           go_roundg k3
           case measure => have := HJ4.out; have := HK2.out; have := HK3.out; omega
           case rel => exact ⟨(x10_3), ((x15_2 ++ [ji66])), (wrap64 (ji66 - a3)), (x277000_3), (x281000_3), (x282000_3), (u277000), (u281000), (by first | rfl | (simp; done) | (simp only [← hji66] <;> (first | rfl | simp)) | (simp [*]; done)), H', ⟨by have := HJ4.out; have := HK2.out; have := HK3.out; omega⟩, ⟨bC_ HO_10⟩, ⟨bC_ HO_277000⟩, ⟨bC_ HO_281000⟩, ⟨bA_ BK266⟩, ⟨bA_ BK267⟩, ⟨bA_ BK268⟩, ⟨bA_ BK276⟩, ⟨bA_ BK280⟩, ⟨bA_ BK281⟩, HYR, HYY, ⟨⟨_, BKM.out, HS.out⟩⟩, ⟨bB_ HB⟩⟩
    ·rw [if_neg c35] at H
     exact absurd H (by simp)

end Go.Proofs.Ytgmbbcnfcddamaa.PFnExactZigzag
