/- Written for this claim by a program of this session: the functions that the law reaches, each with its contract. -/
import Derived.Test.YtgmbbcnfcddamaaPFnContourx0
import Derived.Test.YtgmbbcnfcddamaaPFnContourx7
namespace Go.Proofs.Ytgmbbcnfcddamaa.PFnContour
open Go.RowKit Go.Proofs.YtgmbbcnfcddamaaW.PrintWords Go.Proofs.YtgmbbcnfcddamaaW.PrintLast Go.Proofs.YtgmbbcnfcddamaaW.PrintMore
open Go.Proofs.YtgmbbcnfcddamaaW.PrintWords.Aside0 renaming mk → zA
open List renaming setIfInBounds_toArray → zB, set_cons_zero → zC, set_cons_succ → zD
open Go.Proofs.YtgmbbcnfcddamaaW.PrintWords.Kd renaming R_drewN → zE, R_alloc → zF, R_drew → zG, R_reads' → zK, R_below → zL
open Go.Proofs.YtgmbbcnfcddamaaW.PrintWords renaming blk_drewN → zM, blk_drew → zN, blk_alloc → zO, pw_below_drewN → zP, below_drew1 → zQ, below_alloc → zR, below_set → zS, blk_below → zU
attribute [local go_sem] i64_w max2_int min2_int max_two min_two max_three min_three max_four min_four
set_option linter.unusedVariables false
set_option linter.unusedSimpArgs false

theorem then_wrap {P : Program} {s : Code} {Q : Exit → Act → World → Prop} {a : Act} {w : World} (h : ∀ K : Act → World → Prop, (∀ a' w', Q .normal a' w' → K a' w') → s.wp P (Exit.then K Q) a w) : s.wp P Q a w := by
 refine wp_mono (h (Q .normal) (fun _ _ q => q)) ?_
 intro e a' w' hq
 cases e <;> exact hq
mutual
def spec_l00Src_job.l0 : Nat → Int → Int → Int → List Int → Int → Int → Int → Int → List Int → Int → Int → List Int → Option (Int × Int × List Int × Int × Int × List Int × Int × Int × Int)
 | 0, _, _, _, _, _, _, _, _, _, _, _, _ => none
 | k + 1, x5, x6, x9, x1000, x1001, x1002, x236000, x236001, x236002, x237000, x237001, x237002 => if x9 < (wrap64 (x5 * x6)) then ((spec_l00Src_next.f x1000 x1001 x1002 3).bind fun bt237 => (if 0 ≤ x9 then (if x9 < (x236002.length : Int) then (if x237002.length < 17592186044416 then (spec_l00Src_job.l0 k x5 x6 (wrap64 (x9 + 1)) x1000 bt237.2.1 bt237.2.2 x236000 x236001 x236002 x237000 x237001 (x237002 ++ [mx (wrap64 (8 + bt237.1)) (rd x236002 x9)])) else (none)) else (none)) else (none))) else ((spec_l00Src_next.f x1000 x1001 x1002 3).bind fun bt244 => ((spec_l00Src_next.f x1000 bt244.2.1 bt244.2.2 30).bind fun bt247 => (if bt247.1 = 0 then ((some (([3, 4, (-1)] : List Int) : List Int)).bind fun y250 => ((spec_l00Src_next.f x1000 bt247.2.1 bt247.2.2 3).bind fun bt253 => (if 0 ≤ bt253.1 then (if bt253.1 < (y250.length : Int) then (spec_l00Src_job.j5 k (rd y250 bt253.1) x1000 bt253.2.1 bt253.2.2 x236000 x236001 x236002 x237000 x237001 x237002) else (none)) else (none)))) else (if bt247.1 = 1 then ((spec_l00Src_next.f x1000 bt247.2.1 bt247.2.2 (x236002.length : Int)).bind fun bt257 => ((some (([24, 25, (-1)] : List Int) : List Int)).bind fun y260 => ((spec_l00Src_next.f x1000 bt257.2.1 bt257.2.2 3).bind fun bt263 => (if 0 ≤ bt263.1 then (if bt263.1 < (y260.length : Int) then (if 0 ≤ bt257.1 then (if bt257.1 < (x236002.length : Int) then (spec_l00Src_job.j4 k bt244.1 x1000 bt263.2.1 bt263.2.2 x236000 x236001 (x236002.set (bt257.1 : Int).toNat (rd y260 bt263.1)) x237000 x237001 x237002) else (none)) else (none)) else (none)) else (none))))) else (if bt247.1 = 2 then (spec_l00Src_job.j3 k bt244.1 x1000 bt247.2.1 bt247.2.2 x236000 x236001 x236002 (wrap64 (x237000 + 1)) x237001 x237002) else (if bt247.1 = 3 then (if 1 ≤ (x237002.length : Int) then (spec_l00Src_job.j2 k bt244.1 x1000 bt247.2.1 bt247.2.2 x236000 x236001 x236002 x237000 x237001 (x237002.drop (1 : Int).toNat)) else (none)) else (if bt247.1 = 4 then ((spec_l00Src_odd.f x1000 bt247.2.1 bt247.2.2).bind fun bt271 => (spec_l00Src_job.j1 k bt244.1 x1000 bt271.2.1 bt271.2.2 x236000 bt271.1 x236002 x237000 x237001 x237002)) else (spec_l00Src_job.j1 k bt244.1 x1000 bt247.2.1 bt247.2.2 x236000 x236001 x236002 x237000 x237001 x237002))))))))
def spec_l00Src_job.j5 : Nat → Int → List Int → Int → Int → Int → Int → List Int → Int → Int → List Int → Option (Int × Int × List Int × Int × Int × List Int × Int × Int × Int)
 | 0, _, _, _, _, _, _, _, _, _, _ => none
 | k + 1, x10, x1000, x1001, x1002, x236000, x236001, x236002, x237000, x237001, x237002 => some (x237000, x237001, x237002, x236000, x236001, x236002, x10, x1001, x1002)
def spec_l00Src_job.j4 : Nat → Int → List Int → Int → Int → Int → Int → List Int → Int → Int → List Int → Option (Int × Int × List Int × Int × Int × List Int × Int × Int × Int)
 | 0, _, _, _, _, _, _, _, _, _, _ => none
 | k + 1, x10, x1000, x1001, x1002, x236000, x236001, x236002, x237000, x237001, x237002 => spec_l00Src_job.j5 k x10 x1000 x1001 x1002 x236000 x236001 x236002 x237000 x237001 x237002
def spec_l00Src_job.j3 : Nat → Int → List Int → Int → Int → Int → Int → List Int → Int → Int → List Int → Option (Int × Int × List Int × Int × Int × List Int × Int × Int × Int)
 | 0, _, _, _, _, _, _, _, _, _, _ => none
 | k + 1, x10, x1000, x1001, x1002, x236000, x236001, x236002, x237000, x237001, x237002 => spec_l00Src_job.j4 k x10 x1000 x1001 x1002 x236000 x236001 x236002 x237000 x237001 x237002
def spec_l00Src_job.j2 : Nat → Int → List Int → Int → Int → Int → Int → List Int → Int → Int → List Int → Option (Int × Int × List Int × Int × Int × List Int × Int × Int × Int)
 | 0, _, _, _, _, _, _, _, _, _, _ => none
 | k + 1, x10, x1000, x1001, x1002, x236000, x236001, x236002, x237000, x237001, x237002 => spec_l00Src_job.j3 k x10 x1000 x1001 x1002 x236000 x236001 x236002 x237000 x237001 x237002
def spec_l00Src_job.j1 : Nat → Int → List Int → Int → Int → Int → Int → List Int → Int → Int → List Int → Option (Int × Int × List Int × Int × Int × List Int × Int × Int × Int)
 | 0, _, _, _, _, _, _, _, _, _, _ => none
 | k + 1, x10, x1000, x1001, x1002, x236000, x236001, x236002, x237000, x237001, x237002 => spec_l00Src_job.j2 k x10 x1000 x1001 x1002 x236000 x236001 x236002 x237000 x237001 x237002
end
def spec_l00Src_job.f (k : Nat) (s0_0 : List Int) (s0_1 : Int) (s0_2 : Int) : Option (Int × Int × List Int × Int × Int × List Int × Int × Int × Int) := (spec_l00Src_size.f s0_0 s0_1 s0_2 6).bind fun bt216 => ((spec_l00Src_next.f s0_0 bt216.2.1 bt216.2.2 (wrap64 (bt216.1 + 2))).bind fun bt219 => ((spec_l00Src_size.f s0_0 bt219.2.1 bt219.2.2 6).bind fun bt222 => ((spec_l00Src_next.f s0_0 bt222.2.1 bt222.2.2 (wrap64 (bt222.1 + 2))).bind fun bt225 => ((spec_l00Src_field.f k s0_0 bt225.2.1 bt225.2.2 (wrap64 (1 + bt219.1)) (wrap64 (1 + bt225.1))).bind fun bt228 => (spec_l00Src_job.l0 k (wrap64 (1 + bt219.1)) (wrap64 (1 + bt225.1)) 0 s0_0 bt228.2.2.2.1 bt228.2.2.2.2 bt228.1 bt228.2.1 bt228.2.2.1 (wrap64 (1 + bt219.1)) (wrap64 (1 + bt225.1)) ([] : List Int))))))
theorem spec_l00Src_job.mono_l : ∀ k, (∀ y0 y1 y2 y3 y4 y5 y6 y7 y8 y9 y10 y11, LeO (spec_l00Src_job.l0 k y0 y1 y2 y3 y4 y5 y6 y7 y8 y9 y10 y11) (spec_l00Src_job.l0 (k + 1) y0 y1 y2 y3 y4 y5 y6 y7 y8 y9 y10 y11)) ∧ (∀ y0 y1 y2 y3 y4 y5 y6 y7 y8 y9, LeO (spec_l00Src_job.j5 k y0 y1 y2 y3 y4 y5 y6 y7 y8 y9) (spec_l00Src_job.j5 (k + 1) y0 y1 y2 y3 y4 y5 y6 y7 y8 y9)) ∧ (∀ y0 y1 y2 y3 y4 y5 y6 y7 y8 y9, LeO (spec_l00Src_job.j4 k y0 y1 y2 y3 y4 y5 y6 y7 y8 y9) (spec_l00Src_job.j4 (k + 1) y0 y1 y2 y3 y4 y5 y6 y7 y8 y9)) ∧ (∀ y0 y1 y2 y3 y4 y5 y6 y7 y8 y9, LeO (spec_l00Src_job.j3 k y0 y1 y2 y3 y4 y5 y6 y7 y8 y9) (spec_l00Src_job.j3 (k + 1) y0 y1 y2 y3 y4 y5 y6 y7 y8 y9)) ∧ (∀ y0 y1 y2 y3 y4 y5 y6 y7 y8 y9, LeO (spec_l00Src_job.j2 k y0 y1 y2 y3 y4 y5 y6 y7 y8 y9) (spec_l00Src_job.j2 (k + 1) y0 y1 y2 y3 y4 y5 y6 y7 y8 y9)) ∧ (∀ y0 y1 y2 y3 y4 y5 y6 y7 y8 y9, LeO (spec_l00Src_job.j1 k y0 y1 y2 y3 y4 y5 y6 y7 y8 y9) (spec_l00Src_job.j1 (k + 1) y0 y1 y2 y3 y4 y5 y6 y7 y8 y9))
 | 0 => ⟨fun _ _ _ _ _ _ _ _ _ _ _ _ r h => by simp [spec_l00Src_job.l0] at h, fun _ _ _ _ _ _ _ _ _ _ r h => by simp [spec_l00Src_job.j5] at h, fun _ _ _ _ _ _ _ _ _ _ r h => by simp [spec_l00Src_job.j4] at h, fun _ _ _ _ _ _ _ _ _ _ r h => by simp [spec_l00Src_job.j3] at h, fun _ _ _ _ _ _ _ _ _ _ r h => by simp [spec_l00Src_job.j2] at h, fun _ _ _ _ _ _ _ _ _ _ r h => by simp [spec_l00Src_job.j1] at h⟩
 | k + 1 => by
  obtain ⟨ih0, ih1, ih2, ih3, ih4, ih5⟩ := spec_l00Src_job.mono_l k
  refine ⟨?_, ?_, ?_, ?_, ?_, ?_⟩
  ·intro y0 y1 y2 y3 y4 y5 y6 y7 y8 y9 y10 y11
   unfold spec_l00Src_job.l0
   repeat' first
   | (with_reducible exact ih0 _ _ _ _ _ _ _ _ _ _ _ _)
   | (with_reducible exact ih1 _ _ _ _ _ _ _ _ _ _)
   | (with_reducible exact ih2 _ _ _ _ _ _ _ _ _ _)
   | (with_reducible exact ih3 _ _ _ _ _ _ _ _ _ _)
   | (with_reducible exact ih4 _ _ _ _ _ _ _ _ _ _)
   | (with_reducible exact ih5 _ _ _ _ _ _ _ _ _ _)
   | (with_reducible exact spec_l00Src_field.mono _ _ _ _ _ _)
   | (with_reducible exact LeO.refl _)
   | (with_reducible exact LeO.none _)
   | (with_reducible refine LeO.ite ?_ ?_)
   | (with_reducible refine LeO.bind ?_ (fun _ => ?_))
   | exact ih0 _ _ _ _ _ _ _ _ _ _ _ _
   | exact ih1 _ _ _ _ _ _ _ _ _ _
   | exact ih2 _ _ _ _ _ _ _ _ _ _
   | exact ih3 _ _ _ _ _ _ _ _ _ _
   | exact ih4 _ _ _ _ _ _ _ _ _ _
   | exact ih5 _ _ _ _ _ _ _ _ _ _
   | exact spec_l00Src_field.mono _ _ _ _ _ _
   | exact LeO.none _
   | refine LeO.ite ?_ ?_
   | refine LeO.bind ?_ (fun _ => ?_)
  ·intro y0 y1 y2 y3 y4 y5 y6 y7 y8 y9
   unfold spec_l00Src_job.j5
   repeat' first
   | (with_reducible exact ih0 _ _ _ _ _ _ _ _ _ _ _ _)
   | (with_reducible exact ih1 _ _ _ _ _ _ _ _ _ _)
   | (with_reducible exact ih2 _ _ _ _ _ _ _ _ _ _)
   | (with_reducible exact ih3 _ _ _ _ _ _ _ _ _ _)
   | (with_reducible exact ih4 _ _ _ _ _ _ _ _ _ _)
   | (with_reducible exact ih5 _ _ _ _ _ _ _ _ _ _)
   | (with_reducible exact spec_l00Src_field.mono _ _ _ _ _ _)
   | (with_reducible exact LeO.refl _)
   | (with_reducible exact LeO.none _)
   | (with_reducible refine LeO.ite ?_ ?_)
   | (with_reducible refine LeO.bind ?_ (fun _ => ?_))
   | exact ih0 _ _ _ _ _ _ _ _ _ _ _ _
   | exact ih1 _ _ _ _ _ _ _ _ _ _
   | exact ih2 _ _ _ _ _ _ _ _ _ _
   | exact ih3 _ _ _ _ _ _ _ _ _ _
   | exact ih4 _ _ _ _ _ _ _ _ _ _
   | exact ih5 _ _ _ _ _ _ _ _ _ _
   | exact spec_l00Src_field.mono _ _ _ _ _ _
   | exact LeO.none _
   | refine LeO.ite ?_ ?_
   | refine LeO.bind ?_ (fun _ => ?_)
  ·intro y0 y1 y2 y3 y4 y5 y6 y7 y8 y9
   unfold spec_l00Src_job.j4
   repeat' first
   | (with_reducible exact ih0 _ _ _ _ _ _ _ _ _ _ _ _)
   | (with_reducible exact ih1 _ _ _ _ _ _ _ _ _ _)
   | (with_reducible exact ih2 _ _ _ _ _ _ _ _ _ _)
   | (with_reducible exact ih3 _ _ _ _ _ _ _ _ _ _)
   | (with_reducible exact ih4 _ _ _ _ _ _ _ _ _ _)
   | (with_reducible exact ih5 _ _ _ _ _ _ _ _ _ _)
   | (with_reducible exact spec_l00Src_field.mono _ _ _ _ _ _)
   | (with_reducible exact LeO.refl _)
   | (with_reducible exact LeO.none _)
   | (with_reducible refine LeO.ite ?_ ?_)
   | (with_reducible refine LeO.bind ?_ (fun _ => ?_))
   | exact ih0 _ _ _ _ _ _ _ _ _ _ _ _
   | exact ih1 _ _ _ _ _ _ _ _ _ _
   | exact ih2 _ _ _ _ _ _ _ _ _ _
   | exact ih3 _ _ _ _ _ _ _ _ _ _
   | exact ih4 _ _ _ _ _ _ _ _ _ _
   | exact ih5 _ _ _ _ _ _ _ _ _ _
   | exact spec_l00Src_field.mono _ _ _ _ _ _
   | exact LeO.none _
   | refine LeO.ite ?_ ?_
   | refine LeO.bind ?_ (fun _ => ?_)
  ·intro y0 y1 y2 y3 y4 y5 y6 y7 y8 y9
   unfold spec_l00Src_job.j3
   repeat' first
   | (with_reducible exact ih0 _ _ _ _ _ _ _ _ _ _ _ _)
   | (with_reducible exact ih1 _ _ _ _ _ _ _ _ _ _)
   | (with_reducible exact ih2 _ _ _ _ _ _ _ _ _ _)
   | (with_reducible exact ih3 _ _ _ _ _ _ _ _ _ _)
   | (with_reducible exact ih4 _ _ _ _ _ _ _ _ _ _)
   | (with_reducible exact ih5 _ _ _ _ _ _ _ _ _ _)
   | (with_reducible exact spec_l00Src_field.mono _ _ _ _ _ _)
   | (with_reducible exact LeO.refl _)
   | (with_reducible exact LeO.none _)
   | (with_reducible refine LeO.ite ?_ ?_)
   | (with_reducible refine LeO.bind ?_ (fun _ => ?_))
   | exact ih0 _ _ _ _ _ _ _ _ _ _ _ _
   | exact ih1 _ _ _ _ _ _ _ _ _ _
   | exact ih2 _ _ _ _ _ _ _ _ _ _
   | exact ih3 _ _ _ _ _ _ _ _ _ _
   | exact ih4 _ _ _ _ _ _ _ _ _ _
   | exact ih5 _ _ _ _ _ _ _ _ _ _
   | exact spec_l00Src_field.mono _ _ _ _ _ _
   | exact LeO.none _
   | refine LeO.ite ?_ ?_
   | refine LeO.bind ?_ (fun _ => ?_)
  ·intro y0 y1 y2 y3 y4 y5 y6 y7 y8 y9
   unfold spec_l00Src_job.j2
   repeat' first
   | (with_reducible exact ih0 _ _ _ _ _ _ _ _ _ _ _ _)
   | (with_reducible exact ih1 _ _ _ _ _ _ _ _ _ _)
   | (with_reducible exact ih2 _ _ _ _ _ _ _ _ _ _)
   | (with_reducible exact ih3 _ _ _ _ _ _ _ _ _ _)
   | (with_reducible exact ih4 _ _ _ _ _ _ _ _ _ _)
   | (with_reducible exact ih5 _ _ _ _ _ _ _ _ _ _)
   | (with_reducible exact spec_l00Src_field.mono _ _ _ _ _ _)
   | (with_reducible exact LeO.refl _)
   | (with_reducible exact LeO.none _)
   | (with_reducible refine LeO.ite ?_ ?_)
   | (with_reducible refine LeO.bind ?_ (fun _ => ?_))
   | exact ih0 _ _ _ _ _ _ _ _ _ _ _ _
   | exact ih1 _ _ _ _ _ _ _ _ _ _
   | exact ih2 _ _ _ _ _ _ _ _ _ _
   | exact ih3 _ _ _ _ _ _ _ _ _ _
   | exact ih4 _ _ _ _ _ _ _ _ _ _
   | exact ih5 _ _ _ _ _ _ _ _ _ _
   | exact spec_l00Src_field.mono _ _ _ _ _ _
   | exact LeO.none _
   | refine LeO.ite ?_ ?_
   | refine LeO.bind ?_ (fun _ => ?_)
  ·intro y0 y1 y2 y3 y4 y5 y6 y7 y8 y9
   unfold spec_l00Src_job.j1
   repeat' first
   | (with_reducible exact ih0 _ _ _ _ _ _ _ _ _ _ _ _)
   | (with_reducible exact ih1 _ _ _ _ _ _ _ _ _ _)
   | (with_reducible exact ih2 _ _ _ _ _ _ _ _ _ _)
   | (with_reducible exact ih3 _ _ _ _ _ _ _ _ _ _)
   | (with_reducible exact ih4 _ _ _ _ _ _ _ _ _ _)
   | (with_reducible exact ih5 _ _ _ _ _ _ _ _ _ _)
   | (with_reducible exact spec_l00Src_field.mono _ _ _ _ _ _)
   | (with_reducible exact LeO.refl _)
   | (with_reducible exact LeO.none _)
   | (with_reducible refine LeO.ite ?_ ?_)
   | (with_reducible refine LeO.bind ?_ (fun _ => ?_))
   | exact ih0 _ _ _ _ _ _ _ _ _ _ _ _
   | exact ih1 _ _ _ _ _ _ _ _ _ _
   | exact ih2 _ _ _ _ _ _ _ _ _ _
   | exact ih3 _ _ _ _ _ _ _ _ _ _
   | exact ih4 _ _ _ _ _ _ _ _ _ _
   | exact ih5 _ _ _ _ _ _ _ _ _ _
   | exact spec_l00Src_field.mono _ _ _ _ _ _
   | exact LeO.none _
   | refine LeO.ite ?_ ?_
   | refine LeO.bind ?_ (fun _ => ?_)
theorem spec_l00Src_job.mono : ∀ a0 a1 a2 k, LeO (spec_l00Src_job.f k a0 a1 a2) (spec_l00Src_job.f (k + 1) a0 a1 a2) := by
 intro a0 a1 a2 k
 obtain ⟨ih0, ih1, ih2, ih3, ih4, ih5⟩ := spec_l00Src_job.mono_l k
 unfold spec_l00Src_job.f
 repeat' first
   | (with_reducible exact ih0 _ _ _ _ _ _ _ _ _ _ _ _)
   | (with_reducible exact ih1 _ _ _ _ _ _ _ _ _ _)
   | (with_reducible exact ih2 _ _ _ _ _ _ _ _ _ _)
   | (with_reducible exact ih3 _ _ _ _ _ _ _ _ _ _)
   | (with_reducible exact ih4 _ _ _ _ _ _ _ _ _ _)
   | (with_reducible exact ih5 _ _ _ _ _ _ _ _ _ _)
   | (with_reducible exact spec_l00Src_field.mono _ _ _ _ _ _)
   | (with_reducible exact LeO.refl _)
   | (with_reducible exact LeO.none _)
   | (with_reducible refine LeO.ite ?_ ?_)
   | (with_reducible refine LeO.bind ?_ (fun _ => ?_))
   | exact ih0 _ _ _ _ _ _ _ _ _ _ _ _
   | exact ih1 _ _ _ _ _ _ _ _ _ _
   | exact ih2 _ _ _ _ _ _ _ _ _ _
   | exact ih3 _ _ _ _ _ _ _ _ _ _
   | exact ih4 _ _ _ _ _ _ _ _ _ _
   | exact ih5 _ _ _ _ _ _ _ _ _ _
   | exact spec_l00Src_field.mono _ _ _ _ _ _
   | exact LeO.none _
   | refine LeO.ite ?_ ?_
   | refine LeO.bind ?_ (fun _ => ?_)
def spec_l00Src_job.T8 : Bool × List (List Nat × List Nat) := (true, [([], []), ([0], [0]), ([], []), ([2], [2]), ([3], [3]), ([], []), ([5], [5]), ([], []), ([6, 7], [6, 7]), ([8], [8]), ([4, 9], [4, 9]), ([10], [10]), ([1, 11, 3], [1, 11]), ([0, 1, 2, 3, 4, 5, 6, 7, 8, 9, 10, 11, 12], []), ([13, 12, 12, 0, 1, 2, 3, 4, 5, 6, 7, 8, 9, 10, 11, 12], [12, 13])])
def spec_l00Src_job.B8 : List Nat := [0, 1, 0, 4, 12, 0, 32, 0, 224, 480, 1020, 2044, 4095, 8191, 16383]
theorem spec_l00Src_job.tab8 : rtab .any (opsOf Try.f56 8) = spec_l00Src_job.T8 := by kernel_rfl
theorem spec_l00Src_job.bits8 : waitsOk spec_l00Src_job.T8.2 spec_l00Src_job.B8 = true := by kernel_rfl
def spec_l00Src_job.T14 : Bool × List (List Nat × List Nat) := (true, [([], []), ([0], [0]), ([], []), ([], []), ([3], [3]), ([4], [4]), ([2, 5], [2, 5]), ([], []), ([], []), ([8, 6], [8]), ([7, 9], [7, 9]), ([10], [10]), ([1, 6, 0, 1, 2, 3, 4, 5, 6, 7, 8, 9, 10, 11], [1, 6]), ([12, 11, 9, 0, 1, 2, 3, 4, 5, 6, 7, 8, 9, 10, 11], [11, 12])])
def spec_l00Src_job.B14 : List Nat := [0, 1, 0, 0, 8, 24, 60, 0, 0, 380, 1020, 2044, 4095, 8191]
theorem spec_l00Src_job.tab14 : rtab .any (opsOf Try.f56 14) = spec_l00Src_job.T14 := by kernel_rfl
theorem spec_l00Src_job.bits14 : waitsOk spec_l00Src_job.T14.2 spec_l00Src_job.B14 = true := by kernel_rfl
set_option maxHeartbeats 8000000 in
set_option maxRecDepth 100000 in
theorem spec_l00Src_job.calls (k : Nat) (g : Nat) (s0_0 : List Int) (s0_1 : Int) (s0_2 : Int) (r1 : Int) (r2 : Int) (r3 : List Int) (r4 : Int) (r5 : Int) (r6 : List Int) (r7 : Int) (r8 : Int) (r9 : Int) (w0 w : World) (hI : IsS90 w0 w g s0_0 s0_1 s0_2) (hB : Below w0.heap.size w0 w) (h : spec_l00Src_job.f k s0_0 s0_1 s0_2 = some (r1, r2, r3, r4, r5, r6, r7, r8, r9)) :
  Calls Try.prog 56 #[.pointer (some ⟨g, 0, none⟩)] w fun e w' => ∃ v2_ v5_ : Value, e = .returned (.tuple #[.agg #[.int .i64 r1, .int .i64 r2, v2_], .agg #[.int .i64 r4, .int .i64 r5, v5_], .int .i64 r7]) ∧ Kd.Q (Kd.int .i64) 3 w' w.heap.size (fun k_ => some k_ ≠ (v5_ : Value).ownBlock) v2_ r3 ∧ Kd.Q (Kd.int .i64) 3 w' w.heap.size (fun k_ => some k_ ≠ (v2_ : Value).ownBlock) v5_ r6 ∧ IsS90 w0 w' g s0_0 r8 r9 ∧ Below w0.heap.size w0 w' ∧ KeepBut w w' g none := by
 have hu26 := Try.underlying26
 have HI0 := zA hI
 have HK := zA (KeepBut.refl w g none)
 have HL := zA hB.size
 clear hI
 have HW0 := zA hB.size
 have HB := zA hB
 clear hB
 have H : ((spec_l00Src_size.f s0_0 s0_1 s0_2 6).bind fun bt216 => ((spec_l00Src_next.f s0_0 bt216.2.1 bt216.2.2 (wrap64 (bt216.1 + 2))).bind fun bt219 => ((spec_l00Src_size.f s0_0 bt219.2.1 bt219.2.2 6).bind fun bt222 => ((spec_l00Src_next.f s0_0 bt222.2.1 bt222.2.2 (wrap64 (bt222.1 + 2))).bind fun bt225 => ((spec_l00Src_field.f k s0_0 bt225.2.1 bt225.2.2 (wrap64 (1 + bt219.1)) (wrap64 (1 + bt225.1))).bind fun bt228 => (spec_l00Src_job.l0 k (wrap64 (1 + bt219.1)) (wrap64 (1 + bt225.1)) 0 s0_0 bt228.2.2.2.1 bt228.2.2.2.2 bt228.1 bt228.2.1 bt228.2.2.1 (wrap64 (1 + bt219.1)) (wrap64 (1 + bt225.1)) ([] : List Int))))))) = some (r1, r2, r3, r4, r5, r6, r7, r8, r9) := h
 clear h
 replace H := Option.bind_eq_some_iff.mp H
 obtain ⟨⟨t216, t217, t218⟩, A20, H⟩ := H
 replace H : ((spec_l00Src_next.f s0_0 t217 t218 (wrap64 (t216 + 2))).bind fun bt219 => ((spec_l00Src_size.f s0_0 bt219.2.1 bt219.2.2 6).bind fun bt222 => ((spec_l00Src_next.f s0_0 bt222.2.1 bt222.2.2 (wrap64 (bt222.1 + 2))).bind fun bt225 => ((spec_l00Src_field.f k s0_0 bt225.2.1 bt225.2.2 (wrap64 (1 + bt219.1)) (wrap64 (1 + bt225.1))).bind fun bt228 => (spec_l00Src_job.l0 k (wrap64 (1 + bt219.1)) (wrap64 (1 + bt225.1)) 0 s0_0 bt228.2.2.2.1 bt228.2.2.2.2 bt228.1 bt228.2.1 bt228.2.2.1 (wrap64 (1 + bt219.1)) (wrap64 (1 + bt225.1)) ([] : List Int)))))) = some (r1, r2, r3, r4, r5, r6, r7, r8, r9) := H
 have A2 := zA A20
 clear A20
 replace H := Option.bind_eq_some_iff.mp H
 obtain ⟨⟨t219, t220, t221⟩, A30, H⟩ := H
 replace H : ((spec_l00Src_size.f s0_0 t220 t221 6).bind fun bt222 => ((spec_l00Src_next.f s0_0 bt222.2.1 bt222.2.2 (wrap64 (bt222.1 + 2))).bind fun bt225 => ((spec_l00Src_field.f k s0_0 bt225.2.1 bt225.2.2 (wrap64 (1 + t219)) (wrap64 (1 + bt225.1))).bind fun bt228 => (spec_l00Src_job.l0 k (wrap64 (1 + t219)) (wrap64 (1 + bt225.1)) 0 s0_0 bt228.2.2.2.1 bt228.2.2.2.2 bt228.1 bt228.2.1 bt228.2.2.1 (wrap64 (1 + t219)) (wrap64 (1 + bt225.1)) ([] : List Int))))) = some (r1, r2, r3, r4, r5, r6, r7, r8, r9) := H
 have A3 := zA A30
 clear A30
 replace H := Option.bind_eq_some_iff.mp H
 obtain ⟨⟨t222, t223, t224⟩, A40, H⟩ := H
 replace H : ((spec_l00Src_next.f s0_0 t223 t224 (wrap64 (t222 + 2))).bind fun bt225 => ((spec_l00Src_field.f k s0_0 bt225.2.1 bt225.2.2 (wrap64 (1 + t219)) (wrap64 (1 + bt225.1))).bind fun bt228 => (spec_l00Src_job.l0 k (wrap64 (1 + t219)) (wrap64 (1 + bt225.1)) 0 s0_0 bt228.2.2.2.1 bt228.2.2.2.2 bt228.1 bt228.2.1 bt228.2.2.1 (wrap64 (1 + t219)) (wrap64 (1 + bt225.1)) ([] : List Int)))) = some (r1, r2, r3, r4, r5, r6, r7, r8, r9) := H
 have A4 := zA A40
 clear A40
 replace H := Option.bind_eq_some_iff.mp H
 obtain ⟨⟨t225, t226, t227⟩, A50, H⟩ := H
 replace H : ((spec_l00Src_field.f k s0_0 t226 t227 (wrap64 (1 + t219)) (wrap64 (1 + t225))).bind fun bt228 => (spec_l00Src_job.l0 k (wrap64 (1 + t219)) (wrap64 (1 + t225)) 0 s0_0 bt228.2.2.2.1 bt228.2.2.2.2 bt228.1 bt228.2.1 bt228.2.2.1 (wrap64 (1 + t219)) (wrap64 (1 + t225)) ([] : List Int))) = some (r1, r2, r3, r4, r5, r6, r7, r8, r9) := H
 have A5 := zA A50
 clear A50
 replace H := Option.bind_eq_some_iff.mp H
 obtain ⟨⟨t228, t229, t230, t233, t234⟩, A60, H⟩ := H
 replace H : (spec_l00Src_job.l0 k (wrap64 (1 + t219)) (wrap64 (1 + t225)) 0 s0_0 t233 t234 t228 t229 t230 (wrap64 (1 + t219)) (wrap64 (1 + t225)) ([] : List Int)) = some (r1, r2, r3, r4, r5, r6, r7, r8, r9) := H
 have A6 := zA A60
 clear A60
 have H' := zA H
 clear H
 go_enter Try.func56, Try.ntmps56
 go_wp2_with (first | ((with_reducible refine gate_dst (N := 2) rfl ?_); refine box_event ?hg (N := 2) ?hd (cs := #[.int .i64 0, .int .i64 0, .slice none 0 0]) (t := 26) ?hr ?_; (case hd => rfl); (case hg => rfl); (case hr => first | (go_simp; done) | (go_simp; rfl)); intro gb214 hg w7 hbox hb; have n0_ := zA (IsS90.below (by repeat (first | (with_reducible first | exact HI0.out | apply IsS90.alloc | apply IsS90.drewN | apply IsS90.drew | apply IsS90.set_1 | apply IsS90.set_2) | exact HI0.out)) hb); have n1_ := zA (KeepBut.trans (by repeat (first | (with_reducible first | exact HK.out | apply KeepBut.set_ | apply keep_drewN | apply keep_drew | apply keep_alloc) | exact HK.out)) (KeepBut.of_below hb g none) (.inl rfl)); have n2_ := zA (below_step (by repeat (first | (with_reducible first | exact HB.out | apply zR | apply zP | apply zQ | refine zS ?_ (IsS90.ge HI0.out)) | exact HB.out)) hb); have n3_ := zA (hbox); have n4_ := zA ((by rw [hg]; exact (keep_size (w := w) (g := g) (row := none) (by repeat (first | (with_reducible first | exact HK.out | apply KeepBut.set_ | apply keep_drewN | apply keep_drew | apply keep_alloc) | exact HK.out))) : w.heap.size ≤ gb214)); have n5_ := zA ((Nat.le_trans HW0.out (by rw [hg]; exact (keep_size (w := w) (g := g) (row := none) (by repeat (first | (with_reducible first | exact HK.out | apply KeepBut.set_ | apply keep_drewN | apply keep_drew | apply keep_alloc) | exact HK.out))) : w.heap.size ≤ gb214) : w0.heap.size ≤ gb214)); have n6_ := zA ((by rw [hg]; exact Nat.ne_of_lt (IsS90.lt (show IsS90 w0 _ g s0_0 s0_1 s0_2 from by repeat (first | (with_reducible first | exact HI0.out | apply IsS90.alloc | apply IsS90.drewN | apply IsS90.drew | apply IsS90.set_1 | apply IsS90.set_2) | exact HI0.out))) : g ≠ gb214)); have n7_ := zA ((by rw [hg]; exact Nat.ne_of_gt (IsS90.lt (show IsS90 w0 _ g s0_0 s0_1 s0_2 from by repeat (first | (with_reducible first | exact HI0.out | apply IsS90.alloc | apply IsS90.drewN | apply IsS90.drew | apply IsS90.set_1 | apply IsS90.set_2) | exact HI0.out))) : gb214 ≠ g)); clear HI0; clear HK; clear HB; have HI0 := n0_; have HK := n1_; have HB := n2_; have BK214 := n3_; have GW214 := n4_; have GE214 := n5_; have NB0_214 := n6_; have NB214_0 := n7_; clear n0_ n1_ n2_ n3_ n4_ n5_ n6_ n7_; clear hb hbox hg) | ((with_reducible refine gate_dst (N := 3) rfl ?_); refine box_event ?hg (N := 3) ?hd (cs := #[.int .i64 0, .int .i64 0, .slice none 0 0]) (t := 26) ?hr ?_; (case hd => rfl); (case hg => rfl); (case hr => first | (go_simp; done) | (go_simp; rfl)); intro gb215 hg w8 hbox hb; have n0_ := zA (IsS90.below (by repeat (first | (with_reducible first | exact HI0.out | apply IsS90.alloc | apply IsS90.drewN | apply IsS90.drew | apply IsS90.set_1 | apply IsS90.set_2 | refine IsS90.far ?_ NB0_214.out _) | exact HI0.out)) hb); have n1_ := zA (zU (g := gb214) (o := .cells #[.int .i64 0, .int .i64 0, .slice none 0 0] 26 (0, 0)) (bA_ BK214) hb); have n2_ := zA (KeepBut.trans (by repeat (first | (with_reducible first | exact HK.out | apply KeepBut.set_ | apply keep_drewN | apply keep_drew | apply keep_alloc | refine keep_far ?_ GW214.out _) | exact HK.out)) (KeepBut.of_below hb g none) (.inl rfl)); have n3_ := zA (below_step (by repeat (first | (with_reducible first | exact HB.out | apply zR | apply zP | apply zQ | refine zS ?_ (IsS90.ge HI0.out) | refine zS ?_ GE214.out) | exact HB.out)) hb); have n4_ := zA (hbox); have n5_ := zA ((by rw [hg]; exact (keep_size (w := w) (g := g) (row := none) (by repeat (first | (with_reducible first | exact HK.out | apply KeepBut.set_ | apply keep_drewN | apply keep_drew | apply keep_alloc | refine keep_far ?_ GW214.out _) | exact HK.out))) : w.heap.size ≤ gb215)); have n6_ := zA ((Nat.le_trans HW0.out (by rw [hg]; exact (keep_size (w := w) (g := g) (row := none) (by repeat (first | (with_reducible first | exact HK.out | apply KeepBut.set_ | apply keep_drewN | apply keep_drew | apply keep_alloc | refine keep_far ?_ GW214.out _) | exact HK.out))) : w.heap.size ≤ gb215) : w0.heap.size ≤ gb215)); have n7_ := zA ((by rw [hg]; exact Nat.ne_of_lt (blk_lt (g := gb214) (o := .cells #[.int .i64 0, .int .i64 0, .slice none 0 0] 26 (0, 0)) (bA_ BK214)) : gb214 ≠ gb215)); have n8_ := zA ((by rw [hg]; exact Nat.ne_of_gt (blk_lt (g := gb214) (o := .cells #[.int .i64 0, .int .i64 0, .slice none 0 0] 26 (0, 0)) (bA_ BK214)) : gb215 ≠ gb214)); have n9_ := zA ((by rw [hg]; exact Nat.ne_of_lt (IsS90.lt (show IsS90 w0 _ g s0_0 s0_1 s0_2 from by repeat (first | (with_reducible first | exact HI0.out | apply IsS90.alloc | apply IsS90.drewN | apply IsS90.drew | apply IsS90.set_1 | apply IsS90.set_2 | refine IsS90.far ?_ NB0_214.out _) | exact HI0.out))) : g ≠ gb215)); have n10_ := zA ((by rw [hg]; exact Nat.ne_of_gt (IsS90.lt (show IsS90 w0 _ g s0_0 s0_1 s0_2 from by repeat (first | (with_reducible first | exact HI0.out | apply IsS90.alloc | apply IsS90.drewN | apply IsS90.drew | apply IsS90.set_1 | apply IsS90.set_2 | refine IsS90.far ?_ NB0_214.out _) | exact HI0.out))) : gb215 ≠ g)); clear HI0; clear BK214; clear HK; clear HB; have HI0 := n0_; have BK214 := n1_; have HK := n2_; have HB := n3_; have BK215 := n4_; have GW215 := n5_; have GE215 := n6_; have NB214_215 := n7_; have NB215_214 := n8_; have NB0_215 := n9_; have NB215_0 := n10_; clear n0_ n1_ n2_ n3_ n4_ n5_ n6_ n7_ n8_ n9_ n10_; clear hb hbox hg) | ((with_reducible refine gate_callee (f := 67) rfl ?_); refine goesL_ (some 13) rfl rfl Try.func67 (by kernel_rfl) rfl #[.pointer (some ⟨g, 0, none⟩), .int .i64 6] rfl (by (try simp only [List.map_toArray, List.map_cons, List.map_nil]); first | done | rfl | (simp only [List.length_drop, List.length_take]; rfl)) ?_; (with_reducible refine (spec_l00Src_size.calls g s0_0 s0_1 s0_2 6 t216 t217 t218 w0 _ ?side1 ?side2 A2.out).mono ?_); (case side1 => repeat (first | (with_reducible first | exact HI0.out | apply IsS90.alloc | apply IsS90.drewN | apply IsS90.drew | apply IsS90.set_1 | apply IsS90.set_2 | refine IsS90.far ?_ NB0_214.out _ | refine IsS90.far ?_ NB0_215.out _) | exact HI0.out)); (case side2 => repeat (first | (with_reducible first | exact HB.out | apply zR | apply zP | apply zQ | refine zS ?_ (IsS90.ge HI0.out) | refine zS ?_ GE214.out | refine zS ?_ GE215.out) | exact HB.out)); rintro e w9 ⟨rfl, hi, hb, hk⟩; refine ⟨_, rfl, ?_⟩; have n0_ := zA (KeepBut.blk hk (g' := gb214) (o := .cells #[.int .i64 0, .int .i64 0, .slice none 0 0] 26 (0, 0)) (bA_ BK214) NB214_0.out (by simp)); have n1_ := zA (KeepBut.blk hk (g' := gb215) (o := .cells #[.int .i64 0, .int .i64 0, .slice none 0 0] 26 (0, 0)) (bA_ BK215) NB215_0.out (by simp)); have n2_ := zA (KeepBut.trans (by repeat (first | (with_reducible first | exact HK.out | apply KeepBut.set_ | apply keep_drewN | apply keep_drew | apply keep_alloc | refine keep_far ?_ GW214.out _ | refine keep_far ?_ GW215.out _) | exact HK.out)) hk (.inl rfl)); have n3_ := zA (hb); have n4_ := zA (hi); clear BK214; clear BK215; clear HK; clear HB; clear HI0; have BK214 := n0_; have BK215 := n1_; have HK := n2_; have HB := n3_; have HI0 := n4_; clear n0_ n1_ n2_ n3_ n4_; (try clear hb); (try clear hb2); (try clear hk); (try clear hi)) | ((with_reducible refine gate_callee (f := 66) rfl ?_); refine goesL_ (some 15) rfl rfl Try.func66 (by kernel_rfl) rfl #[.pointer (some ⟨g, 0, none⟩), .int .i64 (wrap64 (t216 + 2))] rfl (by (try simp only [List.map_toArray, List.map_cons, List.map_nil]); first | done | rfl | (simp only [List.length_drop, List.length_take]; rfl)) ?_; (with_reducible refine (spec_l00Src_next.calls g s0_0 t217 t218 (wrap64 (t216 + 2)) t219 t220 t221 w0 _ ?side1 ?side2 A3.out).mono ?_); (case side1 => repeat (first | (with_reducible first | exact HI0.out | apply IsS90.alloc | apply IsS90.drewN | apply IsS90.drew | apply IsS90.set_1 | apply IsS90.set_2 | refine IsS90.far ?_ NB0_214.out _ | refine IsS90.far ?_ NB0_215.out _) | exact HI0.out)); (case side2 => repeat (first | (with_reducible first | exact HB.out | apply zR | apply zP | apply zQ | refine zS ?_ (IsS90.ge HI0.out) | refine zS ?_ GE214.out | refine zS ?_ GE215.out) | exact HB.out)); rintro e w10 ⟨rfl, hi, hb, hk⟩; refine ⟨_, rfl, ?_⟩; have n0_ := zA (KeepBut.blk hk (g' := gb214) (o := .cells #[.int .i64 0, .int .i64 0, .slice none 0 0] 26 (0, 0)) (bA_ BK214) NB214_0.out (by simp)); have n1_ := zA (KeepBut.blk hk (g' := gb215) (o := .cells #[.int .i64 0, .int .i64 0, .slice none 0 0] 26 (0, 0)) (bA_ BK215) NB215_0.out (by simp)); have n2_ := zA (KeepBut.trans (by repeat (first | (with_reducible first | exact HK.out | apply KeepBut.set_ | apply keep_drewN | apply keep_drew | apply keep_alloc | refine keep_far ?_ GW214.out _ | refine keep_far ?_ GW215.out _) | exact HK.out)) hk (.inl rfl)); have n3_ := zA (hb); have n4_ := zA (hi); clear BK214; clear BK215; clear HK; clear HB; clear HI0; have BK214 := n0_; have BK215 := n1_; have HK := n2_; have HB := n3_; have HI0 := n4_; clear n0_ n1_ n2_ n3_ n4_; (try clear hb); (try clear hb2); (try clear hk); (try clear hi)) | ((with_reducible refine gate_callee (f := 67) rfl ?_); refine goesL_ (some 19) rfl rfl Try.func67 (by kernel_rfl) rfl #[.pointer (some ⟨g, 0, none⟩), .int .i64 6] rfl (by (try simp only [List.map_toArray, List.map_cons, List.map_nil]); first | done | rfl | (simp only [List.length_drop, List.length_take]; rfl)) ?_; (with_reducible refine (spec_l00Src_size.calls g s0_0 t220 t221 6 t222 t223 t224 w0 _ ?side1 ?side2 A4.out).mono ?_); (case side1 => repeat (first | (with_reducible first | exact HI0.out | apply IsS90.alloc | apply IsS90.drewN | apply IsS90.drew | apply IsS90.set_1 | apply IsS90.set_2 | refine IsS90.far ?_ NB0_214.out _ | refine IsS90.far ?_ NB0_215.out _) | exact HI0.out)); (case side2 => repeat (first | (with_reducible first | exact HB.out | apply zR | apply zP | apply zQ | refine zS ?_ (IsS90.ge HI0.out) | refine zS ?_ GE214.out | refine zS ?_ GE215.out) | exact HB.out)); rintro e w11 ⟨rfl, hi, hb, hk⟩; refine ⟨_, rfl, ?_⟩; have n0_ := zA (KeepBut.blk hk (g' := gb214) (o := .cells #[.int .i64 0, .int .i64 0, .slice none 0 0] 26 (0, 0)) (bA_ BK214) NB214_0.out (by simp)); have n1_ := zA (KeepBut.blk hk (g' := gb215) (o := .cells #[.int .i64 0, .int .i64 0, .slice none 0 0] 26 (0, 0)) (bA_ BK215) NB215_0.out (by simp)); have n2_ := zA (KeepBut.trans (by repeat (first | (with_reducible first | exact HK.out | apply KeepBut.set_ | apply keep_drewN | apply keep_drew | apply keep_alloc | refine keep_far ?_ GW214.out _ | refine keep_far ?_ GW215.out _) | exact HK.out)) hk (.inl rfl)); have n3_ := zA (hb); have n4_ := zA (hi); clear BK214; clear BK215; clear HK; clear HB; clear HI0; have BK214 := n0_; have BK215 := n1_; have HK := n2_; have HB := n3_; have HI0 := n4_; clear n0_ n1_ n2_ n3_ n4_; (try clear hb); (try clear hb2); (try clear hk); (try clear hi)) | ((with_reducible refine gate_callee (f := 66) rfl ?_); refine goesL_ (some 21) rfl rfl Try.func66 (by kernel_rfl) rfl #[.pointer (some ⟨g, 0, none⟩), .int .i64 (wrap64 (t222 + 2))] rfl (by (try simp only [List.map_toArray, List.map_cons, List.map_nil]); first | done | rfl | (simp only [List.length_drop, List.length_take]; rfl)) ?_; (with_reducible refine (spec_l00Src_next.calls g s0_0 t223 t224 (wrap64 (t222 + 2)) t225 t226 t227 w0 _ ?side1 ?side2 A5.out).mono ?_); (case side1 => repeat (first | (with_reducible first | exact HI0.out | apply IsS90.alloc | apply IsS90.drewN | apply IsS90.drew | apply IsS90.set_1 | apply IsS90.set_2 | refine IsS90.far ?_ NB0_214.out _ | refine IsS90.far ?_ NB0_215.out _) | exact HI0.out)); (case side2 => repeat (first | (with_reducible first | exact HB.out | apply zR | apply zP | apply zQ | refine zS ?_ (IsS90.ge HI0.out) | refine zS ?_ GE214.out | refine zS ?_ GE215.out) | exact HB.out)); rintro e w12 ⟨rfl, hi, hb, hk⟩; refine ⟨_, rfl, ?_⟩; have n0_ := zA (KeepBut.blk hk (g' := gb214) (o := .cells #[.int .i64 0, .int .i64 0, .slice none 0 0] 26 (0, 0)) (bA_ BK214) NB214_0.out (by simp)); have n1_ := zA (KeepBut.blk hk (g' := gb215) (o := .cells #[.int .i64 0, .int .i64 0, .slice none 0 0] 26 (0, 0)) (bA_ BK215) NB215_0.out (by simp)); have n2_ := zA (KeepBut.trans (by repeat (first | (with_reducible first | exact HK.out | apply KeepBut.set_ | apply keep_drewN | apply keep_drew | apply keep_alloc | refine keep_far ?_ GW214.out _ | refine keep_far ?_ GW215.out _) | exact HK.out)) hk (.inl rfl)); have n3_ := zA (hb); have n4_ := zA (hi); clear BK214; clear BK215; clear HK; clear HB; clear HI0; have BK214 := n0_; have BK215 := n1_; have HK := n2_; have HB := n3_; have HI0 := n4_; clear n0_ n1_ n2_ n3_ n4_; (try clear hb); (try clear hb2); (try clear hk); (try clear hi)) | ((with_reducible refine gate_callee (f := 72) rfl ?_); refine goesL_ (some 26) rfl rfl Try.func72 (by kernel_rfl) rfl #[.pointer (some ⟨g, 0, none⟩), .int .i64 (wrap64 (1 + t219)), .int .i64 (wrap64 (1 + t225))] rfl (by (try simp only [List.map_toArray, List.map_cons, List.map_nil]); first | done | rfl | (simp only [List.length_drop, List.length_take]; rfl)) ?_; (with_reducible refine (spec_l00Src_field.calls k g s0_0 t226 t227 (wrap64 (1 + t219)) (wrap64 (1 + t225)) t228 t229 t230 t233 t234 w0 _ ?side1 ?side2 A6.out).mono ?_); (case side1 => repeat (first | (with_reducible first | exact HI0.out | apply IsS90.alloc | apply IsS90.drewN | apply IsS90.drew | apply IsS90.set_1 | apply IsS90.set_2 | refine IsS90.far ?_ NB0_214.out _ | refine IsS90.far ?_ NB0_215.out _) | exact HI0.out)); (case side2 => repeat (first | (with_reducible first | exact HB.out | apply zR | apply zP | apply zQ | refine zS ?_ (IsS90.ge HI0.out) | refine zS ?_ GE214.out | refine zS ?_ GE215.out) | exact HB.out)); rintro e w13 ⟨v231, rfl, ho0, hi, hb, hk⟩; refine ⟨_, rfl, ?_⟩; have n0_ := zA (KeepBut.blk hk (g' := gb214) (o := .cells #[.int .i64 0, .int .i64 0, .slice none 0 0] 26 (0, 0)) (bA_ BK214) NB214_0.out (by simp)); have n1_ := zA (KeepBut.blk hk (g' := gb215) (o := .cells #[.int .i64 0, .int .i64 0, .slice none 0 0] 26 (0, 0)) (bA_ BK215) NB215_0.out (by simp)); have n2_ := zA (Kd.R_lower ho0 (keep_size (w := w) (g := g) (row := none) (by repeat (first | (with_reducible first | exact HK.out | apply KeepBut.set_ | apply keep_drewN | apply keep_drew | apply keep_alloc | refine keep_far ?_ GW214.out _ | refine keep_far ?_ GW215.out _) | exact HK.out)))); have n3_ := zA (KeepBut.trans (by repeat (first | (with_reducible first | exact HK.out | apply KeepBut.set_ | apply keep_drewN | apply keep_drew | apply keep_alloc | refine keep_far ?_ GW214.out _ | refine keep_far ?_ GW215.out _) | exact HK.out)) hk (.inl rfl)); have n4_ := zA (hb); have n5_ := zA (hi); clear BK214; clear BK215; clear HK; clear HB; clear HI0; have BK214 := n0_; have BK215 := n1_; have HO232 := n2_; have HK := n3_; have HB := n4_; have HI0 := n5_; clear n0_ n1_ n2_ n3_ n4_ n5_; (try clear hb); (try clear hb2); (try clear hk); (try clear hi); (try clear ho0)) | ((with_reducible refine gate_dst (N := 7) rfl ?_); refine box_event ?hg (N := 7) ?hd (cs := #[.int .i64 0, .int .i64 0, .slice none 0 0]) (t := 26) ?hr ?_; (case hd => rfl); (case hg => rfl); (case hr => first | (go_simp; done) | (go_simp; rfl)); intro gb235 hg w14 hbox hb; have n0_ := zA (zL (bC_ HO232) hb); have n1_ := zA (IsS90.below (by repeat (first | (with_reducible first | exact HI0.out | apply IsS90.alloc | apply IsS90.drewN | apply IsS90.drew | apply IsS90.set_1 | apply IsS90.set_2 | refine IsS90.far ?_ NB0_214.out _ | refine IsS90.far ?_ NB0_215.out _) | exact HI0.out)) hb); have n2_ := zA (zU (g := gb214) (o := .cells #[.int .i64 0, .int .i64 0, .slice none 0 0] 26 (0, 0)) (bA_ BK214) hb); have n3_ := zA (zU (g := gb215) (o := .cells #[.int .i64 0, .int .i64 0, .slice none 0 0] 26 (0, 0)) (bA_ BK215) hb); have n4_ := zA (KeepBut.trans (by repeat (first | (with_reducible first | exact HK.out | apply KeepBut.set_ | apply keep_drewN | apply keep_drew | apply keep_alloc | refine keep_far ?_ GW214.out _ | refine keep_far ?_ GW215.out _) | exact HK.out)) (KeepBut.of_below hb g none) (.inl rfl)); have n5_ := zA (below_step (by repeat (first | (with_reducible first | exact HB.out | apply zR | apply zP | apply zQ | refine zS ?_ (IsS90.ge HI0.out) | refine zS ?_ GE214.out | refine zS ?_ GE215.out) | exact HB.out)) hb); have n6_ := zA (hbox); have n7_ := zA ((by rw [hg]; exact (keep_size (w := w) (g := g) (row := none) (by repeat (first | (with_reducible first | exact HK.out | apply KeepBut.set_ | apply keep_drewN | apply keep_drew | apply keep_alloc | refine keep_far ?_ GW214.out _ | refine keep_far ?_ GW215.out _) | exact HK.out))) : w.heap.size ≤ gb235)); have n8_ := zA ((Nat.le_trans HW0.out (by rw [hg]; exact (keep_size (w := w) (g := g) (row := none) (by repeat (first | (with_reducible first | exact HK.out | apply KeepBut.set_ | apply keep_drewN | apply keep_drew | apply keep_alloc | refine keep_far ?_ GW214.out _ | refine keep_far ?_ GW215.out _) | exact HK.out))) : w.heap.size ≤ gb235) : w0.heap.size ≤ gb235)); have n9_ := zA ((by rw [hg]; exact Nat.ne_of_lt (blk_lt (g := gb214) (o := .cells #[.int .i64 0, .int .i64 0, .slice none 0 0] 26 (0, 0)) (bA_ BK214)) : gb214 ≠ gb235)); have n10_ := zA ((by rw [hg]; exact Nat.ne_of_gt (blk_lt (g := gb214) (o := .cells #[.int .i64 0, .int .i64 0, .slice none 0 0] 26 (0, 0)) (bA_ BK214)) : gb235 ≠ gb214)); have n11_ := zA ((by rw [hg]; exact Nat.ne_of_lt (blk_lt (g := gb215) (o := .cells #[.int .i64 0, .int .i64 0, .slice none 0 0] 26 (0, 0)) (bA_ BK215)) : gb215 ≠ gb235)); have n12_ := zA ((by rw [hg]; exact Nat.ne_of_gt (blk_lt (g := gb215) (o := .cells #[.int .i64 0, .int .i64 0, .slice none 0 0] 26 (0, 0)) (bA_ BK215)) : gb235 ≠ gb215)); have n13_ := zA ((by rw [hg]; exact Nat.ne_of_lt (IsS90.lt (show IsS90 w0 _ g s0_0 t233 t234 from by repeat (first | (with_reducible first | exact HI0.out | apply IsS90.alloc | apply IsS90.drewN | apply IsS90.drew | apply IsS90.set_1 | apply IsS90.set_2 | refine IsS90.far ?_ NB0_214.out _ | refine IsS90.far ?_ NB0_215.out _) | exact HI0.out))) : g ≠ gb235)); have n14_ := zA ((by rw [hg]; exact Nat.ne_of_gt (IsS90.lt (show IsS90 w0 _ g s0_0 t233 t234 from by repeat (first | (with_reducible first | exact HI0.out | apply IsS90.alloc | apply IsS90.drewN | apply IsS90.drew | apply IsS90.set_1 | apply IsS90.set_2 | refine IsS90.far ?_ NB0_214.out _ | refine IsS90.far ?_ NB0_215.out _) | exact HI0.out))) : gb235 ≠ g)); clear HO232; clear HI0; clear BK214; clear BK215; clear HK; clear HB; have HO232 := n0_; have HI0 := n1_; have BK214 := n2_; have BK215 := n3_; have HK := n4_; have HB := n5_; have BK235 := n6_; have GW235 := n7_; have GE235 := n8_; have NB214_235 := n9_; have NB235_214 := n10_; have NB215_235 := n11_; have NB235_215 := n12_; have NB0_235 := n13_; have NB235_0 := n14_; clear n0_ n1_ n2_ n3_ n4_ n5_ n6_ n7_ n8_ n9_ n10_ n11_ n12_ n13_ n14_; clear hb hbox hg; have hnb15 := NB235_214.out; have hnc15 := NB214_235.out; have hnb16 := NB235_215.out; have hnc16 := NB215_235.out; have hnb17 := NB235_0.out; have hnc17 := NB0_235.out; have hcz18_0 : w14.cell? ⟨gb235, 0, none⟩ = some (.int .i64 0) := (blk_cell BK235.out 0).trans rfl; have hcz18_1 : w14.cell? ⟨gb235, 1, none⟩ = some (.int .i64 0) := (blk_cell BK235.out 1).trans rfl; have hcz18_2 : w14.cell? ⟨gb235, 2, none⟩ = some (.slice none 0 0) := (blk_cell BK235.out 2).trans rfl; have hfz18_0 := blk_frozen BK235.out 0; have hfz18_1 := blk_frozen BK235.out 1; have hfz18_2 := blk_frozen BK235.out 2; obtain ⟨Ao19, co19, eo19⟩ := Kd.R_slice HO232.out; subst eo19) | ((with_reducible refine gate_dst (N := 8) rfl ?_); refine box_event ?hg (N := 8) ?hd (cs := #[.int .i64 0, .int .i64 0, .slice none 0 0]) (t := 26) ?hr ?_; (case hd => rfl); (case hg => rfl); (case hr => first | (go_simp; done) | (go_simp; rfl)); intro gb236 hg w20 hbox hb; have n0_ := zA (zL (by (with_reducible repeat (first | apply zF | apply zE | apply zG)); exact (Kd.R_mono (Kd.R_far (p := ⟨gb235, 2, none⟩) (Kd.R_far (p := ⟨gb235, 1, none⟩) (Kd.R_far (p := ⟨gb235, 0, none⟩) (Kd.R_types HO232.out BK235.out (by decide)) (fun _ hk => hk.2) (.int .i64 t228)) (fun _ hk => hk.2) (.int .i64 t229)) (fun _ hk => hk.2) (.slice Ao19 t230.length co19)) (fun _ h_ => h_.1))) hb); have n1_ := zA (IsS90.below (show IsS90 w0 (((w14.setCell ⟨gb235, 0, none⟩ (.int .i64 t228)).setCell ⟨gb235, 1, none⟩ (.int .i64 t229)).setCell ⟨gb235, 2, none⟩ (.slice Ao19 t230.length co19)) g s0_0 t233 t234 from by repeat (first | (with_reducible first | exact HI0.out | apply IsS90.alloc | apply IsS90.drewN | apply IsS90.drew | apply IsS90.set_1 | apply IsS90.set_2 | refine IsS90.far ?_ NB0_214.out _ | refine IsS90.far ?_ NB0_215.out _ | refine IsS90.far ?_ NB0_235.out _) | exact HI0.out)) hb); have n2_ := zA (zU (g := gb214) (o := .cells #[.int .i64 0, .int .i64 0, .slice none 0 0] 26 (0, 0)) (bD_ BK214) hb); have n3_ := zA (zU (g := gb215) (o := .cells #[.int .i64 0, .int .i64 0, .slice none 0 0] 26 (0, 0)) (bD_ BK215) hb); have n4_ := zA (zU (g := gb235) (o := .cells #[.int .i64 t228, .int .i64 t229, .slice Ao19 t230.length co19] 26 (0, 0)) (by (with_reducible repeat (first | refine zM ?_ _ | refine zN ?_ | refine zO ?_ _)); refine blk_put (cs := #[.int .i64 t228, .int .i64 t229, .slice none 0 0]) ?_ 2 _ rfl; (with_reducible repeat (first | refine zM ?_ _ | refine zN ?_ | refine zO ?_ _)); refine blk_put (cs := #[.int .i64 t228, .int .i64 0, .slice none 0 0]) ?_ 1 _ rfl; (with_reducible repeat (first | refine zM ?_ _ | refine zN ?_ | refine zO ?_ _)); refine blk_put (cs := #[.int .i64 0, .int .i64 0, .slice none 0 0]) ?_ 0 _ rfl; (with_reducible repeat (first | refine zM ?_ _ | refine zN ?_ | refine zO ?_ _)); exact BK235.out) hb); have n5_ := zA (KeepBut.trans (by repeat (first | (with_reducible first | exact HK.out | apply KeepBut.set_ | apply keep_drewN | apply keep_drew | apply keep_alloc | refine keep_far ?_ GW214.out _ | refine keep_far ?_ GW215.out _ | refine keep_far ?_ GW235.out _) | exact HK.out)) (KeepBut.of_below hb g none) (.inl rfl)); have n6_ := zA (below_step (by repeat (first | (with_reducible first | exact HB.out | apply zR | apply zP | apply zQ | refine zS ?_ (IsS90.ge HI0.out) | refine zS ?_ GE214.out | refine zS ?_ GE215.out | refine zS ?_ GE235.out) | exact HB.out)) hb); have n7_ := zA (hbox); have n8_ := zA ((by rw [hg]; exact (keep_size (w := w) (g := g) (row := none) (by repeat (first | (with_reducible first | exact HK.out | apply KeepBut.set_ | apply keep_drewN | apply keep_drew | apply keep_alloc | refine keep_far ?_ GW214.out _ | refine keep_far ?_ GW215.out _ | refine keep_far ?_ GW235.out _) | exact HK.out))) : w.heap.size ≤ gb236)); have n9_ := zA ((Nat.le_trans HW0.out (by rw [hg]; exact (keep_size (w := w) (g := g) (row := none) (by repeat (first | (with_reducible first | exact HK.out | apply KeepBut.set_ | apply keep_drewN | apply keep_drew | apply keep_alloc | refine keep_far ?_ GW214.out _ | refine keep_far ?_ GW215.out _ | refine keep_far ?_ GW235.out _) | exact HK.out))) : w.heap.size ≤ gb236) : w0.heap.size ≤ gb236)); have n10_ := zA ((by rw [hg]; exact Nat.ne_of_lt (blk_lt (g := gb214) (o := .cells #[.int .i64 0, .int .i64 0, .slice none 0 0] 26 (0, 0)) (bD_ BK214)) : gb214 ≠ gb236)); have n11_ := zA ((by rw [hg]; exact Nat.ne_of_gt (blk_lt (g := gb214) (o := .cells #[.int .i64 0, .int .i64 0, .slice none 0 0] 26 (0, 0)) (bD_ BK214)) : gb236 ≠ gb214)); have n12_ := zA ((by rw [hg]; exact Nat.ne_of_lt (blk_lt (g := gb215) (o := .cells #[.int .i64 0, .int .i64 0, .slice none 0 0] 26 (0, 0)) (bD_ BK215)) : gb215 ≠ gb236)); have n13_ := zA ((by rw [hg]; exact Nat.ne_of_gt (blk_lt (g := gb215) (o := .cells #[.int .i64 0, .int .i64 0, .slice none 0 0] 26 (0, 0)) (bD_ BK215)) : gb236 ≠ gb215)); have n14_ := zA ((by rw [hg]; exact Nat.ne_of_lt (blk_lt (g := gb235) (o := .cells #[.int .i64 t228, .int .i64 t229, .slice Ao19 t230.length co19] 26 (0, 0)) (by (with_reducible repeat (first | refine zM ?_ _ | refine zN ?_ | refine zO ?_ _)); refine blk_put (cs := #[.int .i64 t228, .int .i64 t229, .slice none 0 0]) ?_ 2 _ rfl; (with_reducible repeat (first | refine zM ?_ _ | refine zN ?_ | refine zO ?_ _)); refine blk_put (cs := #[.int .i64 t228, .int .i64 0, .slice none 0 0]) ?_ 1 _ rfl; (with_reducible repeat (first | refine zM ?_ _ | refine zN ?_ | refine zO ?_ _)); refine blk_put (cs := #[.int .i64 0, .int .i64 0, .slice none 0 0]) ?_ 0 _ rfl; (with_reducible repeat (first | refine zM ?_ _ | refine zN ?_ | refine zO ?_ _)); exact BK235.out)) : gb235 ≠ gb236)); have n15_ := zA ((by rw [hg]; exact Nat.ne_of_gt (blk_lt (g := gb235) (o := .cells #[.int .i64 t228, .int .i64 t229, .slice Ao19 t230.length co19] 26 (0, 0)) (by (with_reducible repeat (first | refine zM ?_ _ | refine zN ?_ | refine zO ?_ _)); refine blk_put (cs := #[.int .i64 t228, .int .i64 t229, .slice none 0 0]) ?_ 2 _ rfl; (with_reducible repeat (first | refine zM ?_ _ | refine zN ?_ | refine zO ?_ _)); refine blk_put (cs := #[.int .i64 t228, .int .i64 0, .slice none 0 0]) ?_ 1 _ rfl; (with_reducible repeat (first | refine zM ?_ _ | refine zN ?_ | refine zO ?_ _)); refine blk_put (cs := #[.int .i64 0, .int .i64 0, .slice none 0 0]) ?_ 0 _ rfl; (with_reducible repeat (first | refine zM ?_ _ | refine zN ?_ | refine zO ?_ _)); exact BK235.out)) : gb236 ≠ gb235)); have n16_ := zA ((by rw [hg]; exact Nat.ne_of_lt (IsS90.lt (show IsS90 w0 _ g s0_0 t233 t234 from by repeat (first | (with_reducible first | exact HI0.out | apply IsS90.alloc | apply IsS90.drewN | apply IsS90.drew | apply IsS90.set_1 | apply IsS90.set_2 | refine IsS90.far ?_ NB0_214.out _ | refine IsS90.far ?_ NB0_215.out _ | refine IsS90.far ?_ NB0_235.out _) | exact HI0.out))) : g ≠ gb236)); have n17_ := zA ((by rw [hg]; exact Nat.ne_of_gt (IsS90.lt (show IsS90 w0 _ g s0_0 t233 t234 from by repeat (first | (with_reducible first | exact HI0.out | apply IsS90.alloc | apply IsS90.drewN | apply IsS90.drew | apply IsS90.set_1 | apply IsS90.set_2 | refine IsS90.far ?_ NB0_214.out _ | refine IsS90.far ?_ NB0_215.out _ | refine IsS90.far ?_ NB0_235.out _) | exact HI0.out))) : gb236 ≠ g)); clear HO232; clear HI0; clear BK214; clear BK215; clear BK235; clear HK; clear HB; have HO232 := n0_; have HI0 := n1_; have BK214 := n2_; have BK215 := n3_; have BK235 := n4_; have HK := n5_; have HB := n6_; have BK236 := n7_; have GW236 := n8_; have GE236 := n9_; have NB214_236 := n10_; have NB236_214 := n11_; have NB215_236 := n12_; have NB236_215 := n13_; have NB235_236 := n14_; have NB236_235 := n15_; have NB0_236 := n16_; have NB236_0 := n17_; clear n0_ n1_ n2_ n3_ n4_ n5_ n6_ n7_ n8_ n9_ n10_ n11_ n12_ n13_ n14_ n15_ n16_ n17_; clear hb hbox hg; have hnb21 := NB236_214.out; have hnc21 := NB214_236.out; have hnb22 := NB236_215.out; have hnc22 := NB215_236.out; have hnb23 := NB236_235.out; have hnc23 := NB235_236.out; have hnb24 := NB236_0.out; have hnc24 := NB0_236.out; have hcz25_0 : w20.cell? ⟨gb236, 0, none⟩ = some (.int .i64 0) := (blk_cell BK236.out 0).trans rfl; have hcz25_1 : w20.cell? ⟨gb236, 1, none⟩ = some (.int .i64 0) := (blk_cell BK236.out 1).trans rfl; have hcz25_2 : w20.cell? ⟨gb236, 2, none⟩ = some (.slice none 0 0) := (blk_cell BK236.out 2).trans rfl; have hfz25_0 := blk_frozen BK236.out 0; have hfz25_1 := blk_frozen BK236.out 1; have hfz25_2 := blk_frozen BK236.out 2))
 go_loopg [9] k (fun kq v9 w' => ∃ (x9_1 : Int) (x1001_1 : Int) (x1002_1 : Int) (x237002_1 : List Int) (u237002 : Value), v9 = .int .i64 x9_1 ∧ Aside0 (spec_l00Src_job.l0 kq (wrap64 (1 + t219)) (wrap64 (1 + t225)) x9_1 s0_0 x1001_1 x1002_1 t228 t229 t230 (wrap64 (1 + t219)) (wrap64 (1 + t225)) x237002_1 = some (r1, r2, r3, r4, r5, r6, r7, r8, r9)) ∧ Aside0 (kq ≤ k) ∧ Aside0 (Kd.Q (Kd.int .i64) 3 w' w.heap.size (fun k_ => some k_ ≠ (u237002 : Value).ownBlock) (.slice Ao19 t230.length co19) t230) ∧ Aside0 (Kd.Q (Kd.int .i64) 3 w' w.heap.size (fun k_ => some k_ ≠ ((.slice Ao19 t230.length co19) : Value).ownBlock) u237002 x237002_1) ∧ Aside0 (w'.heap[gb214]? = some (.cells #[.int .i64 0, .int .i64 0, (.slice none 0 0)] 26 (0, 0))) ∧ Aside0 (w'.heap[gb215]? = some (.cells #[.int .i64 0, .int .i64 0, (.slice none 0 0)] 26 (0, 0))) ∧ Aside0 (w'.heap[gb235]? = some (.cells #[.int .i64 t228, .int .i64 t229, (.slice Ao19 t230.length co19)] 26 (0, 0))) ∧ Aside0 (w'.heap[gb236]? = some (.cells #[.int .i64 (wrap64 (1 + t219)), .int .i64 (wrap64 (1 + t225)), u237002] 26 (0, 0))) ∧ Aside0 (IsS90 w0 w' g s0_0 x1001_1 x1002_1) ∧ Aside0 (KeepBut w w' g none) ∧ Aside0 (Below w0.heap.size w0 w'))
 case atStart => exact ⟨(0), (t233), (t234), (([] : List Int)), (.slice none 0 0), (by first | rfl | (simp; done) | (simp [*]; done)), H', ⟨Nat.le_refl _⟩, ⟨Kd.Q_of_R (by (with_reducible repeat (first | apply zF | apply zE | apply zG)); exact Kd.R_mono (Kd.R_far (p := ⟨gb236, 2, none⟩) (Kd.R_far (p := ⟨gb236, 1, none⟩) (Kd.R_far (p := ⟨gb236, 0, none⟩) (Kd.R_types HO232.out BK236.out (by decide)) (fun _ hk => hk.2) (.int .i64 (wrap64 (1 + t219)))) (fun _ hk => hk.2) (.int .i64 (wrap64 (1 + t225)))) (fun _ hk => hk.2) (.slice none 0 0)) (fun _ hk => (by simp [Value.ownBlock])))⟩, ⟨Kd.Q_of_R (by first | exact Kd.R_nil _ _ _ _ _ | exact Kd.N_nil _ _ _ _ _ | exact Kd.V_nil _ _ _ _ _ | exact Kd.Q_nil _ _ _ _ _ | exact Kd.S_nil _ _ _ _ _)⟩, ⟨bD_ BK214⟩, ⟨bD_ BK215⟩, ⟨bD_ BK235⟩, ⟨by (with_reducible repeat (first | refine zM ?_ _ | refine zN ?_ | refine zO ?_ _)); refine blk_put (cs := #[.int .i64 (wrap64 (1 + t219)), .int .i64 (wrap64 (1 + t225)), .slice none 0 0]) ?_ 2 _ rfl; (with_reducible repeat (first | refine zM ?_ _ | refine zN ?_ | refine zO ?_ _)); refine blk_put (cs := #[.int .i64 (wrap64 (1 + t219)), .int .i64 0, .slice none 0 0]) ?_ 1 _ rfl; (with_reducible repeat (first | refine zM ?_ _ | refine zN ?_ | refine zO ?_ _)); refine blk_put (cs := #[.int .i64 0, .int .i64 0, .slice none 0 0]) ?_ 0 _ rfl; (with_reducible repeat (first | refine zM ?_ _ | refine zN ?_ | refine zO ?_ _)); exact BK236.out⟩, ⟨by repeat (first | (with_reducible first | exact HI0.out | apply IsS90.alloc | apply IsS90.drewN | apply IsS90.drew | apply IsS90.set_1 | apply IsS90.set_2 | refine IsS90.far ?_ NB0_214.out _ | refine IsS90.far ?_ NB0_215.out _ | refine IsS90.far ?_ NB0_235.out _ | refine IsS90.far ?_ NB0_236.out _) | exact HI0.out)⟩, ⟨by repeat (first | (with_reducible first | exact HK.out | apply KeepBut.set_ | apply keep_drewN | apply keep_drew | apply keep_alloc | refine keep_far ?_ GW214.out _ | refine keep_far ?_ GW215.out _ | refine keep_far ?_ GW235.out _ | refine keep_far ?_ GW236.out _) | exact HK.out)⟩, ⟨by repeat (first | (with_reducible first | exact HB.out | apply zR | apply zP | apply zQ | refine zS ?_ (IsS90.ge HI0.out) | refine zS ?_ GE214.out | refine zS ?_ GE215.out | refine zS ?_ GE235.out | refine zS ?_ GE236.out) | exact HB.out)⟩⟩
 case round =>
  clear H'
  try clear c1
  try clear c2
  try clear p2
  try clear c5
  try clear c6
  try clear p6
  try clear c7
  try clear c15
  try clear c16
  try clear c17
  try clear c21
  try clear c22
  try clear c23
  try clear c24
  try clear hcz18_0
  try clear hcz18_1
  try clear hcz18_2
  try clear hcz25_0
  try clear hcz25_1
  try clear hcz25_2
  try clear hfz18_0
  try clear hfz18_1
  try clear hfz18_2
  try clear hfz25_0
  try clear hfz25_1
  try clear hfz25_2
  obtain ⟨x9_1, x1001_1, x1002_1, x237002_1, u237002, rfl, HA, HK1, HO_236002, HO_237002, BK214, BK215, BK235, BK236, HI0, HK, HB⟩ := hrel
  cases gk with
  | zero => exact absurd HA.out (by simp [spec_l00Src_job.l0])
  | succ k1 =>
   have H := HA.out
   clear HA
   simp only [spec_l00Src_job.l0] at H
   by_cases c26 : x9_1 < (wrap64 ((wrap64 (1 + t219)) * (wrap64 (1 + t225))))
   ·rw [if_pos c26] at H
    have c26b0 : decide (x9_1 < (wrap64 ((wrap64 (1 + t219)) * (wrap64 (1 + t225))))) = true := decide_eq_true c26
    clear c26
    replace H := Option.bind_eq_some_iff.mp H
    obtain ⟨⟨t237, t238, t239⟩, A270, H⟩ := H
    replace H : (if 0 ≤ x9_1 then (if x9_1 < (t230.length : Int) then (if x237002_1.length < 17592186044416 then (spec_l00Src_job.l0 k1 (wrap64 (1 + t219)) (wrap64 (1 + t225)) (wrap64 (x9_1 + 1)) s0_0 t238 t239 t228 t229 t230 (wrap64 (1 + t219)) (wrap64 (1 + t225)) (x237002_1 ++ [mx (wrap64 (8 + t237)) (rd t230 x9_1)])) else (none)) else (none)) else (none)) = some (r1, r2, r3, r4, r5, r6, r7, r8, r9) := H
    have A27 := zA A270
    clear A270
    by_cases c28 : 0 ≤ x9_1
    ·rw [if_pos c28] at H
     have c28b0 : decide (0 ≤ x9_1) = true := decide_eq_true c28
     clear c28
     by_cases c29 : x9_1 < (t230.length : Int)
     ·rw [if_pos c29] at H
      have c29b0 : decide (x9_1 < (t230.length : Int)) = true := decide_eq_true c29
      clear c29
      obtain ⟨ji30, hji30⟩ : ∃ j_ : Int, (mx (wrap64 (8 + t237)) (rd t230 x9_1)) = j_ := ⟨_, rfl⟩
      replace H : (if x237002_1.length < 17592186044416 then (spec_l00Src_job.l0 k1 (wrap64 (1 + t219)) (wrap64 (1 + t225)) (wrap64 (x9_1 + 1)) s0_0 t238 t239 t228 t229 t230 (wrap64 (1 + t219)) (wrap64 (1 + t225)) (x237002_1 ++ [ji30])) else (none)) = some (r1, r2, r3, r4, r5, r6, r7, r8, r9) := by first | (rw [hji30] at H; exact H) | (simp only [hji30] at H ⊢; exact H)
      (try rw [hji30] at A27)
      have hji30_ : (if (wrap64 (8 + t237)) < (rd t230 x9_1) then (rd t230 x9_1) else (wrap64 (8 + t237))) = ji30 := hji30
      by_cases c31 : x237002_1.length < 17592186044416
      ·rw [if_pos c31] at H
       have LMc31 := zA c31
       clear c31
       obtain ⟨y241, hy241⟩ : ∃ y_ : List Int, y_ = (x237002_1 ++ [ji30]) := ⟨_, rfl⟩
       replace H : (spec_l00Src_job.l0 k1 (wrap64 (1 + t219)) (wrap64 (1 + t225)) (wrap64 (x9_1 + 1)) s0_0 t238 t239 t228 t229 t230 (wrap64 (1 + t219)) (wrap64 (1 + t225)) y241) = some (r1, r2, r3, r4, r5, r6, r7, r8, r9) := by first | (rw [hy241]; with_reducible exact H) | (have H2_ := (Option.bind_some _ _).symm.trans H; rw [hy241]; with_reducible exact H2_) | (have H2_ := (Option.bind_some _ _).symm.trans H; with_reducible exact H2_) | with_reducible exact H | (rw [hy241]; exact H) | exact H
       have Ny241 := zA hy241
       clear hy241
       have H' := zA H
       clear H
       try go_wp2
       have n0_ := zA (Kd.Q_drew HO_236002.out)
       have n1_ := zA (Kd.Q_drew HO_237002.out)
       have n2_ := zA (zN BK214.out)
       have n3_ := zA (zN BK215.out)
       have n4_ := zA (zN BK235.out)
       have n5_ := zA (zN BK236.out)
       have n6_ := zA (IsS90.drew HI0.out)
       have n7_ := zA (keep_drew HK.out)
       have n8_ := zA (zQ HB.out)
       clear HO_236002
       clear HO_237002
       clear BK214
       clear BK215
       clear BK235
       clear BK236
       clear HI0
       clear HK
       clear HB
       have HO_236002 := n0_
       have HO_237002 := n1_
       have BK214 := n2_
       have BK215 := n3_
       have BK235 := n4_
       have BK236 := n5_
       have HI0 := n6_
       have HK := n7_
       have HB := n8_
       clear n0_ n1_ n2_ n3_ n4_ n5_ n6_ n7_ n8_
       have p240 : 0 ≤ (x9_1 : Int) := of_decide_eq_true (by first | (with_reducible assumption) | assumption)
       have q240 : x9_1 < (t230.length : Int) := of_decide_eq_true (by first | (with_reducible assumption) | assumption)
       obtain ⟨ad240, e240, hx240_0⟩ := Kd.at_int (Kd.Q_reads' HO_236002.out).2.2 x9_1 p240 q240
       cases e240
       replace p240 := eq_true p240
       replace q240 := eq_true q240
       refine start_ (n := 15) (S := fun w' => w'.cell? ⟨gb236, 0, none⟩ = some (.int .i64 (wrap64 (1 + t219))) ∧ w'.cell? ⟨gb236, 1, none⟩ = some (.int .i64 (wrap64 (1 + t225))) ∧ w'.cell? ⟨gb236, 2, none⟩ = some (u237002) ∧ w'.cell? ⟨gb235, 0, none⟩ = some (.int .i64 t228) ∧ w'.cell? ⟨gb235, 1, none⟩ = some (.int .i64 t229) ∧ w'.cell? ⟨gb235, 2, none⟩ = some (.slice (some ad240) t230.length co19) ∧ w'.cell? (ad240.add (x9_1).toNat) = some (.int .i64 (rd t230 x9_1))) (ds := [12, 14]) #[false, false, false, false, false, false, false, false, false, false, false, false, false, false, false] (by kernel_rfl) rfl rfl ⟨(blk_cell BK236.out 0).trans rfl, (blk_cell BK236.out 1).trans rfl, (blk_cell BK236.out 2).trans rfl, (blk_cell BK235.out 0).trans rfl, (blk_cell BK235.out 1).trans rfl, (blk_cell BK235.out 2).trans rfl, hx240_0⟩ (fun hHeld => ?_); refine with_tabW spec_l00Src_job.tab8 spec_l00Src_job.bits8 (fun HT_ HW_ => ?_)
       generalize wr.drew = w32 at HO_236002 HO_237002 BK214 BK215 BK235 BK236 HI0 HK HB hx240_0 hHeld ⊢
       refine pure_ (i := 0) (N := some 37) (v := ?_) (a' := ?_) #[true, false, false, false, false, false, false, false, false, false, false, false, false, false, false] rfl rfl (any_of HT_.out (by kernel_rfl)) (fun _ _ _ h => h) (Or.inl ⟨by rfl, ?_⟩) ?_ ?_
       rotate_left
       ·intro w'
        go_simp
        with_reducible rfl
       rotate_left
       ·simp only [Act.put, zB, zC, zD, i64_w, i32_w]
        rfl
       refine pure_ (i := 2) (N := some 39) (v := ?_) (a' := ?_) #[true, false, true, false, false, false, false, false, false, false, false, false, false, false, false] rfl rfl (any_of HT_.out (by kernel_rfl)) (fun _ _ _ h => h) (Or.inl ⟨by rfl, ?_⟩) ?_ ?_
       rotate_left
       ·intro w'
        go_simp
        with_reducible rfl
       rotate_left
       ·simp only [Act.put, zB, zC, zD, i64_w, i32_w]
        rfl
       refine pure_ (i := 5) (N := some 42) (v := ?_) (a' := ?_) #[true, false, true, false, false, true, false, false, false, false, false, false, false, false, false] rfl rfl (any_of HT_.out (by kernel_rfl)) (fun _ _ _ h => h) (Or.inl ⟨by rfl, ?_⟩) ?_ ?_
       rotate_left
       ·intro w'
        go_simp
        with_reducible rfl
       rotate_left
       ·simp only [Act.put, zB, zC, zD, i64_w, i32_w]
        rfl
       refine pure_ (i := 7) (N := some 44) (v := ?_) (a' := ?_) #[true, false, true, false, false, true, false, true, false, false, false, false, false, false, false] rfl rfl (any_of HT_.out (by kernel_rfl)) (fun _ _ _ h => h) (Or.inl ⟨by rfl, ?_⟩) ?_ ?_
       rotate_left
       ·intro w'
        go_simp
        with_reducible rfl
       rotate_left
       ·simp only [Act.put, zB, zC, zD, i64_w, i32_w]
        rfl
       refine take_ (i := 1) (N := some 38) (v := ?_) (a' := ?_) #[true, true, true, false, false, true, false, true, false, false, false, false, false, false, false] rfl rfl (take_ofW HT_.out HW_.out (by kernel_rfl)) (fun _ _ _ h => h) (Or.inl ⟨by rfl, ?_⟩) hHeld ?_ ?_
       rotate_left
       ·rintro w' ⟨s0, s1, s2, s3, s4, s5, s6⟩
        go_simp
        with_reducible rfl
       rotate_left
       ·simp only [Act.put, zB, zC, zD, i64_w, i32_w]
        rfl
       refine take_ (i := 6) (N := some 43) (v := ?_) (a' := ?_) #[true, true, true, false, false, true, true, true, false, false, false, false, false, false, false] rfl rfl (take_ofW HT_.out HW_.out (by kernel_rfl)) (fun _ _ _ h => h) (Or.inl ⟨by rfl, ?_⟩) hHeld ?_ ?_
       rotate_left
       ·rintro w' ⟨s0, s1, s2, s3, s4, s5, s6⟩
        go_simp
        with_reducible rfl
       rotate_left
       ·simp only [Act.put, zB, zC, zD, i64_w, i32_w]
        rfl
       refine pure_ (i := 8) (N := some 45) (v := ?_) (a' := ?_) #[true, true, true, false, false, true, true, true, true, false, false, false, false, false, false] rfl rfl (any_of HT_.out (by kernel_rfl)) (fun _ _ _ h => h) (Or.inl ⟨by rfl, ?_⟩) ?_ ?_
       rotate_left
       ·intro w'
        go_simp
        with_reducible rfl
       rotate_left
       ·simp only [Act.put, zB, zC, zD, i64_w, i32_w]
        rfl
       refine take_ (i := 9) (N := some 46) (v := ?_) (a' := ?_) #[true, true, true, false, false, true, true, true, true, true, false, false, false, false, false] rfl rfl (take_ofW HT_.out HW_.out (by kernel_rfl)) (fun _ _ _ h => h) (Or.inl ⟨by rfl, ?_⟩) hHeld ?_ ?_
       rotate_left
       ·rintro w' ⟨s0, s1, s2, s3, s4, s5, s6⟩
        go_simp
        with_reducible rfl
       rotate_left
       ·simp only [Act.put, zB, zC, zD, i64_w, i32_w]
        rfl
       refine one_ (i := 3) (N := some 40) #[true, true, true, true, false, true, true, true, true, true, false, false, false, false, false] rfl rfl (one_of HT_.out (by kernel_rfl)) (by decide) (fun K hK => ?_)
       refine goes_ Try.func66 (by kernel_rfl) rfl #[.pointer (some ⟨g, 0, none⟩), .int .i64 3] (by rfl) rfl rfl (by (try simp only [List.map_toArray, List.map_cons, List.map_nil]); first | done | rfl | (simp only [List.length_drop, List.length_take]; rfl)) ?_
       with_reducible refine (spec_l00Src_next.calls g s0_0 x1001_1 x1002_1 3 t237 t238 t239 w0 _ ?side1 ?side2 A27.out).mono ?_
       (case side1 => repeat (first | (with_reducible first | exact HI0.out | apply IsS90.alloc | apply IsS90.drewN | apply IsS90.drew | apply IsS90.set_1 | apply IsS90.set_2 | refine IsS90.far ?_ NB0_214.out _ | refine IsS90.far ?_ NB0_215.out _ | refine IsS90.far ?_ NB0_235.out _ | refine IsS90.far ?_ NB0_236.out _) | exact HI0.out))
       (case side2 => repeat (first | (with_reducible first | exact HB.out | apply zR | apply zP | apply zQ | refine zS ?_ (IsS90.ge HI0.out) | refine zS ?_ GE214.out | refine zS ?_ GE215.out | refine zS ?_ GE235.out | refine zS ?_ GE236.out) | exact HB.out))
       rintro e w33 ⟨rfl, hi, hb, hk⟩
       have HS6_ := keep_cell hk (hHeld.2.2.2.2.2.2) (by first | (rw [add_block]; exact Kd.own_blk (IsS90.own_neQ HI0.out HO_236002.out (by decide))) | (show (Addr.add _ _).block ≠ _; rw [add_block]; exact Kd.own_blk (IsS90.own_neQ HI0.out HO_236002.out (by decide))) | exact Kd.own_blk (IsS90.own_neQ HI0.out HO_236002.out (by decide)))
       refine ⟨_, rfl, ?_⟩
       have n0_ := zA (Kd.Q_mono (Kd.Q_keep (IsS90.apartQ (show IsS90 w0 _ g s0_0 x1001_1 x1002_1 from by repeat (first | (with_reducible first | exact HI0.out | apply IsS90.alloc | apply IsS90.drewN | apply IsS90.drew | apply IsS90.set_1 | apply IsS90.set_2 | refine IsS90.far ?_ NB0_214.out _ | refine IsS90.far ?_ NB0_215.out _ | refine IsS90.far ?_ NB0_235.out _ | refine IsS90.far ?_ NB0_236.out _) | exact HI0.out)) (by (with_reducible repeat (first | apply Kd.Q_alloc | apply Kd.Q_drewN | apply Kd.Q_drew)); exact HO_236002.out) (by decide)) hk (fun _ h => h.2)) (fun _ h => h.1))
       have n1_ := zA (Kd.Q_mono (Kd.Q_keep (IsS90.apartQ (show IsS90 w0 _ g s0_0 x1001_1 x1002_1 from by repeat (first | (with_reducible first | exact HI0.out | apply IsS90.alloc | apply IsS90.drewN | apply IsS90.drew | apply IsS90.set_1 | apply IsS90.set_2 | refine IsS90.far ?_ NB0_214.out _ | refine IsS90.far ?_ NB0_215.out _ | refine IsS90.far ?_ NB0_235.out _ | refine IsS90.far ?_ NB0_236.out _) | exact HI0.out)) (by (with_reducible repeat (first | apply Kd.Q_alloc | apply Kd.Q_drewN | apply Kd.Q_drew)); exact HO_237002.out) (by decide)) hk (fun _ h => h.2)) (fun _ h => h.1))
       have n2_ := zA (KeepBut.blk hk (g' := gb214) (o := .cells #[.int .i64 0, .int .i64 0, .slice none 0 0] 26 (0, 0)) (bA_ BK214) NB214_0.out (by simp))
       have n3_ := zA (KeepBut.blk hk (g' := gb215) (o := .cells #[.int .i64 0, .int .i64 0, .slice none 0 0] 26 (0, 0)) (bA_ BK215) NB215_0.out (by simp))
       have n4_ := zA (KeepBut.blk hk (g' := gb235) (o := .cells #[.int .i64 t228, .int .i64 t229, .slice (some ad240) t230.length co19] 26 (0, 0)) (bA_ BK235) NB235_0.out (by simp))
       have n5_ := zA (KeepBut.blk hk (g' := gb236) (o := .cells #[.int .i64 (wrap64 (1 + t219)), .int .i64 (wrap64 (1 + t225)), u237002] 26 (0, 0)) (bA_ BK236) NB236_0.out (by simp))
       have n6_ := zA (KeepBut.trans (by repeat (first | (with_reducible first | exact HK.out | apply KeepBut.set_ | apply keep_drewN | apply keep_drew | apply keep_alloc | refine keep_far ?_ GW214.out _ | refine keep_far ?_ GW215.out _ | refine keep_far ?_ GW235.out _ | refine keep_far ?_ GW236.out _) | exact HK.out)) hk (.inl rfl))
       have n7_ := zA (hb)
       have n8_ := zA (hi)
       clear HO_236002
       clear HO_237002
       clear BK214
       clear BK215
       clear BK235
       clear BK236
       clear HK
       clear HB
       clear HI0
       have HO_236002 := n0_
       have HO_237002 := n1_
       have BK214 := n2_
       have BK215 := n3_
       have BK235 := n4_
       have BK236 := n5_
       have HK := n6_
       have HB := n7_
       have HI0 := n8_
       clear n0_ n1_ n2_ n3_ n4_ n5_ n6_ n7_ n8_
       (try clear hb)
       (try clear hb2)
       (try clear hk)
       (try clear hi)
       refine hK.out _ _ ⟨(blk_cell BK236.out 0).trans rfl, (blk_cell BK236.out 1).trans rfl, (blk_cell BK236.out 2).trans rfl, (blk_cell BK235.out 0).trans rfl, (blk_cell BK235.out 1).trans rfl, (blk_cell BK235.out 2).trans rfl, HS6_⟩ (fun hHeld => ?_)
       clear hK K
       refine norm_ (a' := ?_) ?_ ?_
       rotate_left
       ·show Act.put _ (some 40) _ = _
        simp only [Act.put, zB, zC, zD, i64_w, i32_w]
        rfl
       refine pure_ (i := 4) (N := some 41) (v := ?_) (a' := ?_) #[true, true, true, true, true, true, true, true, true, true, false, false, false, false, false] rfl rfl (any_of HT_.out (by kernel_rfl)) (fun _ _ _ h => h) (Or.inl ⟨by rfl, ?_⟩) ?_ ?_
       rotate_left
       ·intro w'
        go_simp
        with_reducible rfl
       rotate_left
       ·simp only [Act.put, zB, zC, zD, i64_w, i32_w]
        rfl
       refine pure_ (i := 10) (N := some 47) (v := ?_) (a' := ?_) #[true, true, true, true, true, true, true, true, true, true, true, false, false, false, false] rfl rfl (any_of HT_.out (by kernel_rfl)) (fun _ _ _ h => h) (Or.inl ⟨by rfl, ?_⟩) ?_ ?_
       rotate_left
       ·intro w'
        go_simp
        with_reducible rfl
       rotate_left
       ·simp only [Act.put, zB, zC, zD, i64_w, i32_w]
        rfl
       refine one_ (i := 11) (N := some 48) #[true, true, true, true, true, true, true, true, true, true, true, true, false, false, false] rfl rfl (one_of HT_.out (by kernel_rfl)) (by decide) (fun K hK => ?_)
       refine value_ (w1 := ?_) (v := ?_) (by rfl) rfl ?_ ?_
       rotate_left 2
       ·go_simp
        constructor
        ·rfl
        ·rfl
       refine hK.out _ _ ⟨(blk_cell (zO BK236.out _) 0).trans rfl, (blk_cell (zO BK236.out _) 1).trans rfl, (blk_cell (zO BK236.out _) 2).trans rfl, (blk_cell (zO BK235.out _) 0).trans rfl, (blk_cell (zO BK235.out _) 1).trans rfl, (blk_cell (zO BK235.out _) 2).trans rfl, (World.cell?_alloc_lt _ _ _ (World.block_lt_of_cell? _ _ (hHeld.2.2.2.2.2.2))).trans (hHeld.2.2.2.2.2.2)⟩ (fun hHeld => ?_)
       clear hK K
       refine norm_ (a' := ?_) ?_ ?_
       rotate_left
       ·show Act.put _ (some 48) _ = _
        simp only [Act.put, zB, zC, zD, i64_w, i32_w]
        rfl
       refine last_ (i := 12) (N := some 49) #[true, true, true, true, true, true, true, true, true, true, true, true, true, false, false] rfl rfl (one_of HT_.out (by kernel_rfl)) (by decide) (fun K hK => ?_)
       refine Kd.Q_append_step (Kd.int .i64) w.heap.size (by rfl) (.tmp 38) (.tmp 48) 22 3 (.int .i64 0) 8 rfl Try.underlying22 info3 rfl (by decide) (by omega) u237002 x237002_1 ji30 [.int .i64 ji30] (fun k_ => some k_ ≠ (.slice (some ad240) t230.length co19 : Value).ownBlock) (fun _ => False) rfl rfl ?aP (fun _ hk => hk.elim) ?aF ?aO (Below.refl _ _) ?aS ?aL ?_
       (case aP => exact rfl)
       (case aF => exact (fun k_ hk => Kd.fresh' (Kd.Q_lt (by (with_reducible repeat (first | apply Kd.Q_alloc | apply Kd.Q_drewN | apply Kd.Q_drew)); exact HO_236002.out)) k_ hk))
       (case aO => exact (by (with_reducible repeat (first | apply Kd.Q_alloc | apply Kd.Q_drewN | apply Kd.Q_drew)); exact HO_237002.out))
       (case aS => exact (keep_size (w := w) (g := g) (row := none) (by repeat (first | (with_reducible first | exact HK.out | apply KeepBut.set_ | apply keep_drewN | apply keep_drew | apply keep_alloc | refine keep_far ?_ GW214.out _ | refine keep_far ?_ GW215.out _ | refine keep_far ?_ GW235.out _ | refine keep_far ?_ GW236.out _) | exact HK.out))))
       (case aL => have := LMc31.out; omega)
       intro v242 w34 ho hb hg hat
       rw [← Ny241.out] at ho
       have n0_ := zA (Kd.Q_after (ok := (fun _ => True)) (by (with_reducible repeat (first | apply Kd.Q_alloc | apply Kd.Q_drewN | apply Kd.Q_drew)); exact Kd.Q_mono HO_236002.out (fun _ hk => ⟨trivial, hk⟩)) hg hat)
       have n1_ := zA (blk_grown (g := gb214) (o := .cells #[.int .i64 0, .int .i64 0, .slice none 0 0] 26 (0, 0)) (bA_ BK214) hg (Kd.Q_ne HO_237002.out BK214.out (by decide)))
       have n2_ := zA (blk_grown (g := gb215) (o := .cells #[.int .i64 0, .int .i64 0, .slice none 0 0] 26 (0, 0)) (bA_ BK215) hg (Kd.Q_ne HO_237002.out BK215.out (by decide)))
       have n3_ := zA (blk_grown (g := gb235) (o := .cells #[.int .i64 t228, .int .i64 t229, .slice (some ad240) t230.length co19] 26 (0, 0)) (bA_ BK235) hg (Kd.Q_ne HO_237002.out BK235.out (by decide)))
       have n4_ := zA (blk_grown (g := gb236) (o := .cells #[.int .i64 (wrap64 (1 + t219)), .int .i64 (wrap64 (1 + t225)), u237002] 26 (0, 0)) (bA_ BK236) hg (Kd.Q_ne HO_237002.out BK236.out (by decide)))
       have n5_ := zA (IsS90.grown (by repeat (first | (with_reducible first | exact HI0.out | apply IsS90.alloc | apply IsS90.drewN | apply IsS90.drew | apply IsS90.set_1 | apply IsS90.set_2 | refine IsS90.far ?_ NB0_214.out _ | refine IsS90.far ?_ NB0_215.out _ | refine IsS90.far ?_ NB0_235.out _ | refine IsS90.far ?_ NB0_236.out _) | exact HI0.out)) hg (IsS90.own_neQ HI0.out HO_237002.out (by decide)))
       have n6_ := zA (below_weaken (by repeat (first | (with_reducible first | exact HB.out | apply zR | apply zP | apply zQ | refine zS ?_ (IsS90.ge HI0.out) | refine zS ?_ GE214.out | refine zS ?_ GE215.out | refine zS ?_ GE235.out | refine zS ?_ GE236.out) | exact HB.out)) HL.out hb)
       have n7_ := zA (KeepBut.trans (by repeat (first | (with_reducible first | exact HK.out | apply KeepBut.set_ | apply keep_drewN | apply keep_drew | apply keep_alloc | refine keep_far ?_ GW214.out _ | refine keep_far ?_ GW215.out _ | refine keep_far ?_ GW235.out _ | refine keep_far ?_ GW236.out _) | exact HK.out)) (KeepBut.of_grown hg g) (Kd.Q_base2 HO_237002.out))
       have n8_ := zA (ho)
       clear HO_236002
       clear BK214
       clear BK215
       clear BK235
       clear BK236
       clear HI0
       clear HB
       clear HK
       clear HO_237002
       have HO_236002 := n0_
       have BK214 := n1_
       have BK215 := n2_
       have BK235 := n3_
       have BK236 := n4_
       have HI0 := n5_
       have HB := n6_
       have HK := n7_
       have HO243 := n8_
       clear n0_ n1_ n2_ n3_ n4_ n5_ n6_ n7_ n8_
       clear ho hb hg hat
       obtain ⟨Ao35, co35, eo35, _⟩ := Kd.Q_slice HO243.out
       (first | subst eo35 | (injection eo35 with f1_ f2_ f3_; have f4_ := f1_.symm; have f5_ := f3_.symm; clear f1_ f2_ f3_; subst f4_; subst f5_))
       refine hK.out _ _ ?_
       clear hK K
       refine norm_ (a' := ?_) ?_ ?_
       rotate_left
       ·show Act.put _ (some 49) _ = _
        simp only [Act.put, zB, zC, zD, i64_w, i32_w]
        rfl
       refine pure_ (i := 13) (N := some 50) (v := ?_) (a' := ?_) #[true, true, true, true, true, true, true, true, true, true, true, true, true, true, false] rfl rfl (any_of HT_.out (by kernel_rfl)) (fun _ _ _ h => h) (Or.inl ⟨by rfl, ?_⟩) ?_ ?_
       rotate_left
       ·intro w'
        go_simp
        with_reducible rfl
       rotate_left
       ·simp only [Act.put, zB, zC, zD, i64_w, i32_w]
        rfl
       refine last_ (i := 14) (N := none) #[true, true, true, true, true, true, true, true, true, true, true, true, true, true, true] rfl rfl (one_of HT_.out (by kernel_rfl)) (by decide) (fun K hK => ?_)
       have hs36 : w34.cell? ⟨gb236, 2, none⟩ = some (u237002) := (blk_cell BK236.out 2).trans rfl
       have hfs36 := blk_frozen BK236.out 2
       have hns36_0 := NB214_236.out
       have hns36_1 := NB215_236.out
       have hns36_2 := NB235_236.out
       have hms36_0 := NB236_214.out
       have hms36_1 := NB236_215.out
       have hms36_2 := NB236_235.out
       refine skip_ (w1 := ?_) (by rfl) rfl ?_ ?_
       rotate_left
       ·go_simp
        rfl
       refine hK.out _ _ ?_
       clear hK K
       refine done_ (done_of HT_.out (by kernel_rfl)) ?_
       try go_wp2
       go_roundg k1
       case measure => have := HK1.out; omega
       case rel => exact ⟨(wrap64 (x9_1 + 1)), (t238), (t239), (y241), (.slice Ao35 y241.length co35), (by first | rfl | (simp; done) | (simp [*]; done)), H', ⟨by have := HK1.out; omega⟩, ⟨by (with_reducible repeat (first | apply Kd.Q_alloc | apply Kd.Q_drewN | apply Kd.Q_drew)); exact Kd.Q_mono (Kd.Q_far (p := ⟨gb236, 2, none⟩) (Kd.Q_types HO_236002.out BK236.out (by decide)) (fun _ hk => hk.2) (.slice Ao35 y241.length co35)) (fun _ hk => hk.1.2)⟩, ⟨by (with_reducible repeat (first | apply Kd.Q_alloc | apply Kd.Q_drewN | apply Kd.Q_drew)); exact Kd.Q_mono (Kd.Q_far (p := ⟨gb236, 2, none⟩) (Kd.Q_types HO243.out BK236.out (by decide)) (fun _ hk => hk.2) (.slice Ao35 y241.length co35)) (fun _ hk => hk.1)⟩, ⟨bD_ BK214⟩, ⟨bD_ BK215⟩, ⟨bD_ BK235⟩, ⟨by (with_reducible repeat (first | refine zM ?_ _ | refine zN ?_ | refine zO ?_ _)); refine blk_put (cs := #[.int .i64 (wrap64 (1 + t219)), .int .i64 (wrap64 (1 + t225)), u237002]) ?_ 2 _ rfl; (with_reducible repeat (first | refine zM ?_ _ | refine zN ?_ | refine zO ?_ _)); exact BK236.out⟩, ⟨by repeat (first | (with_reducible first | exact HI0.out | apply IsS90.alloc | apply IsS90.drewN | apply IsS90.drew | apply IsS90.set_1 | apply IsS90.set_2 | refine IsS90.far ?_ NB0_214.out _ | refine IsS90.far ?_ NB0_215.out _ | refine IsS90.far ?_ NB0_235.out _ | refine IsS90.far ?_ NB0_236.out _) | exact HI0.out)⟩, ⟨by repeat (first | (with_reducible first | exact HK.out | apply KeepBut.set_ | apply keep_drewN | apply keep_drew | apply keep_alloc | refine keep_far ?_ GW214.out _ | refine keep_far ?_ GW215.out _ | refine keep_far ?_ GW235.out _ | refine keep_far ?_ GW236.out _) | exact HK.out)⟩, ⟨by repeat (first | (with_reducible first | exact HB.out | apply zR | apply zP | apply zQ | refine zS ?_ (IsS90.ge HI0.out) | refine zS ?_ GE214.out | refine zS ?_ GE215.out | refine zS ?_ GE235.out | refine zS ?_ GE236.out) | exact HB.out)⟩⟩
      ·rw [if_neg c31] at H
       exact absurd H (by simp)
     ·rw [if_neg c29] at H
      exact absurd H (by simp)
    ·rw [if_neg c28] at H
     exact absurd H (by simp)
   ·rw [if_neg c26] at H
    have c26b0 : decide (x9_1 < (wrap64 ((wrap64 (1 + t219)) * (wrap64 (1 + t225))))) = false := decide_eq_false c26
    clear c26
    replace H := Option.bind_eq_some_iff.mp H
    obtain ⟨⟨t244, t245, t246⟩, A370, H⟩ := H
    replace H : ((spec_l00Src_next.f s0_0 t245 t246 30).bind fun bt247 => (if bt247.1 = 0 then ((some (([3, 4, (-1)] : List Int) : List Int)).bind fun y250 => ((spec_l00Src_next.f s0_0 bt247.2.1 bt247.2.2 3).bind fun bt253 => (if 0 ≤ bt253.1 then (if bt253.1 < (y250.length : Int) then (spec_l00Src_job.j5 k1 (rd y250 bt253.1) s0_0 bt253.2.1 bt253.2.2 t228 t229 t230 (wrap64 (1 + t219)) (wrap64 (1 + t225)) x237002_1) else (none)) else (none)))) else (if bt247.1 = 1 then ((spec_l00Src_next.f s0_0 bt247.2.1 bt247.2.2 (t230.length : Int)).bind fun bt257 => ((some (([24, 25, (-1)] : List Int) : List Int)).bind fun y260 => ((spec_l00Src_next.f s0_0 bt257.2.1 bt257.2.2 3).bind fun bt263 => (if 0 ≤ bt263.1 then (if bt263.1 < (y260.length : Int) then (if 0 ≤ bt257.1 then (if bt257.1 < (t230.length : Int) then (spec_l00Src_job.j4 k1 t244 s0_0 bt263.2.1 bt263.2.2 t228 t229 (t230.set (bt257.1 : Int).toNat (rd y260 bt263.1)) (wrap64 (1 + t219)) (wrap64 (1 + t225)) x237002_1) else (none)) else (none)) else (none)) else (none))))) else (if bt247.1 = 2 then (spec_l00Src_job.j3 k1 t244 s0_0 bt247.2.1 bt247.2.2 t228 t229 t230 (wrap64 ((wrap64 (1 + t219)) + 1)) (wrap64 (1 + t225)) x237002_1) else (if bt247.1 = 3 then (if 1 ≤ (x237002_1.length : Int) then (spec_l00Src_job.j2 k1 t244 s0_0 bt247.2.1 bt247.2.2 t228 t229 t230 (wrap64 (1 + t219)) (wrap64 (1 + t225)) (x237002_1.drop (1 : Int).toNat)) else (none)) else (if bt247.1 = 4 then ((spec_l00Src_odd.f s0_0 bt247.2.1 bt247.2.2).bind fun bt271 => (spec_l00Src_job.j1 k1 t244 s0_0 bt271.2.1 bt271.2.2 t228 bt271.1 t230 (wrap64 (1 + t219)) (wrap64 (1 + t225)) x237002_1)) else (spec_l00Src_job.j1 k1 t244 s0_0 bt247.2.1 bt247.2.2 t228 t229 t230 (wrap64 (1 + t219)) (wrap64 (1 + t225)) x237002_1))))))) = some (r1, r2, r3, r4, r5, r6, r7, r8, r9) := H
    have A37 := zA A370
    clear A370
    replace H := Option.bind_eq_some_iff.mp H
    obtain ⟨⟨t247, t248, t249⟩, A380, H⟩ := H
    replace H : (if t247 = 0 then ((some (([3, 4, (-1)] : List Int) : List Int)).bind fun y250 => ((spec_l00Src_next.f s0_0 t248 t249 3).bind fun bt253 => (if 0 ≤ bt253.1 then (if bt253.1 < (y250.length : Int) then (spec_l00Src_job.j5 k1 (rd y250 bt253.1) s0_0 bt253.2.1 bt253.2.2 t228 t229 t230 (wrap64 (1 + t219)) (wrap64 (1 + t225)) x237002_1) else (none)) else (none)))) else (if t247 = 1 then ((spec_l00Src_next.f s0_0 t248 t249 (t230.length : Int)).bind fun bt257 => ((some (([24, 25, (-1)] : List Int) : List Int)).bind fun y260 => ((spec_l00Src_next.f s0_0 bt257.2.1 bt257.2.2 3).bind fun bt263 => (if 0 ≤ bt263.1 then (if bt263.1 < (y260.length : Int) then (if 0 ≤ bt257.1 then (if bt257.1 < (t230.length : Int) then (spec_l00Src_job.j4 k1 t244 s0_0 bt263.2.1 bt263.2.2 t228 t229 (t230.set (bt257.1 : Int).toNat (rd y260 bt263.1)) (wrap64 (1 + t219)) (wrap64 (1 + t225)) x237002_1) else (none)) else (none)) else (none)) else (none))))) else (if t247 = 2 then (spec_l00Src_job.j3 k1 t244 s0_0 t248 t249 t228 t229 t230 (wrap64 ((wrap64 (1 + t219)) + 1)) (wrap64 (1 + t225)) x237002_1) else (if t247 = 3 then (if 1 ≤ (x237002_1.length : Int) then (spec_l00Src_job.j2 k1 t244 s0_0 t248 t249 t228 t229 t230 (wrap64 (1 + t219)) (wrap64 (1 + t225)) (x237002_1.drop (1 : Int).toNat)) else (none)) else (if t247 = 4 then ((spec_l00Src_odd.f s0_0 t248 t249).bind fun bt271 => (spec_l00Src_job.j1 k1 t244 s0_0 bt271.2.1 bt271.2.2 t228 bt271.1 t230 (wrap64 (1 + t219)) (wrap64 (1 + t225)) x237002_1)) else (spec_l00Src_job.j1 k1 t244 s0_0 t248 t249 t228 t229 t230 (wrap64 (1 + t219)) (wrap64 (1 + t225)) x237002_1)))))) = some (r1, r2, r3, r4, r5, r6, r7, r8, r9) := H
    have A38 := zA A380
    clear A380
    have HC39 := zA H
    clear H
    go_upto_if 55 with (first | ((with_reducible refine gate_callee (f := 66) rfl ?_); refine goesL_ (some 52) rfl rfl Try.func66 (by kernel_rfl) rfl #[.pointer (some ⟨g, 0, none⟩), .int .i64 3] rfl (by (try simp only [List.map_toArray, List.map_cons, List.map_nil]); first | done | rfl | (simp only [List.length_drop, List.length_take]; rfl)) ?_; (with_reducible refine (spec_l00Src_next.calls g s0_0 x1001_1 x1002_1 3 t244 t245 t246 w0 _ ?side1 ?side2 A37.out).mono ?_); (case side1 => repeat (first | (with_reducible first | exact HI0.out | apply IsS90.alloc | apply IsS90.drewN | apply IsS90.drew | apply IsS90.set_1 | apply IsS90.set_2 | refine IsS90.far ?_ NB0_214.out _ | refine IsS90.far ?_ NB0_215.out _ | refine IsS90.far ?_ NB0_235.out _ | refine IsS90.far ?_ NB0_236.out _) | exact HI0.out)); (case side2 => repeat (first | (with_reducible first | exact HB.out | apply zR | apply zP | apply zQ | refine zS ?_ (IsS90.ge HI0.out) | refine zS ?_ GE214.out | refine zS ?_ GE215.out | refine zS ?_ GE235.out | refine zS ?_ GE236.out) | exact HB.out)); rintro e w40 ⟨rfl, hi, hb, hk⟩; refine ⟨_, rfl, ?_⟩; have n0_ := zA (Kd.Q_mono (Kd.Q_keep (IsS90.apartQ (show IsS90 w0 _ g s0_0 x1001_1 x1002_1 from by repeat (first | (with_reducible first | exact HI0.out | apply IsS90.alloc | apply IsS90.drewN | apply IsS90.drew | apply IsS90.set_1 | apply IsS90.set_2 | refine IsS90.far ?_ NB0_214.out _ | refine IsS90.far ?_ NB0_215.out _ | refine IsS90.far ?_ NB0_235.out _ | refine IsS90.far ?_ NB0_236.out _) | exact HI0.out)) (by (with_reducible repeat (first | apply Kd.Q_alloc | apply Kd.Q_drewN | apply Kd.Q_drew)); exact HO_236002.out) (by decide)) hk (fun _ h => h.2)) (fun _ h => h.1)); have n1_ := zA (Kd.Q_mono (Kd.Q_keep (IsS90.apartQ (show IsS90 w0 _ g s0_0 x1001_1 x1002_1 from by repeat (first | (with_reducible first | exact HI0.out | apply IsS90.alloc | apply IsS90.drewN | apply IsS90.drew | apply IsS90.set_1 | apply IsS90.set_2 | refine IsS90.far ?_ NB0_214.out _ | refine IsS90.far ?_ NB0_215.out _ | refine IsS90.far ?_ NB0_235.out _ | refine IsS90.far ?_ NB0_236.out _) | exact HI0.out)) (by (with_reducible repeat (first | apply Kd.Q_alloc | apply Kd.Q_drewN | apply Kd.Q_drew)); exact HO_237002.out) (by decide)) hk (fun _ h => h.2)) (fun _ h => h.1)); have n2_ := zA (KeepBut.blk hk (g' := gb214) (o := .cells #[.int .i64 0, .int .i64 0, .slice none 0 0] 26 (0, 0)) (bA_ BK214) NB214_0.out (by simp)); have n3_ := zA (KeepBut.blk hk (g' := gb215) (o := .cells #[.int .i64 0, .int .i64 0, .slice none 0 0] 26 (0, 0)) (bA_ BK215) NB215_0.out (by simp)); have n4_ := zA (KeepBut.blk hk (g' := gb235) (o := .cells #[.int .i64 t228, .int .i64 t229, .slice Ao19 t230.length co19] 26 (0, 0)) (bA_ BK235) NB235_0.out (by simp)); have n5_ := zA (KeepBut.blk hk (g' := gb236) (o := .cells #[.int .i64 (wrap64 (1 + t219)), .int .i64 (wrap64 (1 + t225)), u237002] 26 (0, 0)) (bA_ BK236) NB236_0.out (by simp)); have n6_ := zA (KeepBut.trans (by repeat (first | (with_reducible first | exact HK.out | apply KeepBut.set_ | apply keep_drewN | apply keep_drew | apply keep_alloc | refine keep_far ?_ GW214.out _ | refine keep_far ?_ GW215.out _ | refine keep_far ?_ GW235.out _ | refine keep_far ?_ GW236.out _) | exact HK.out)) hk (.inl rfl)); have n7_ := zA (hb); have n8_ := zA (hi); clear HO_236002; clear HO_237002; clear BK214; clear BK215; clear BK235; clear BK236; clear HK; clear HB; clear HI0; have HO_236002 := n0_; have HO_237002 := n1_; have BK214 := n2_; have BK215 := n3_; have BK235 := n4_; have BK236 := n5_; have HK := n6_; have HB := n7_; have HI0 := n8_; clear n0_ n1_ n2_ n3_ n4_ n5_ n6_ n7_ n8_; (try clear hb); (try clear hb2); (try clear hk); (try clear hi)) | ((with_reducible refine gate_callee (f := 66) rfl ?_); refine goesL_ (some 54) rfl rfl Try.func66 (by kernel_rfl) rfl #[.pointer (some ⟨g, 0, none⟩), .int .i64 30] rfl (by (try simp only [List.map_toArray, List.map_cons, List.map_nil]); first | done | rfl | (simp only [List.length_drop, List.length_take]; rfl)) ?_; (with_reducible refine (spec_l00Src_next.calls g s0_0 t245 t246 30 t247 t248 t249 w0 _ ?side1 ?side2 A38.out).mono ?_); (case side1 => repeat (first | (with_reducible first | exact HI0.out | apply IsS90.alloc | apply IsS90.drewN | apply IsS90.drew | apply IsS90.set_1 | apply IsS90.set_2 | refine IsS90.far ?_ NB0_214.out _ | refine IsS90.far ?_ NB0_215.out _ | refine IsS90.far ?_ NB0_235.out _ | refine IsS90.far ?_ NB0_236.out _) | exact HI0.out)); (case side2 => repeat (first | (with_reducible first | exact HB.out | apply zR | apply zP | apply zQ | refine zS ?_ (IsS90.ge HI0.out) | refine zS ?_ GE214.out | refine zS ?_ GE215.out | refine zS ?_ GE235.out | refine zS ?_ GE236.out) | exact HB.out)); rintro e w41 ⟨rfl, hi, hb, hk⟩; refine ⟨_, rfl, ?_⟩; have n0_ := zA (Kd.Q_mono (Kd.Q_keep (IsS90.apartQ (show IsS90 w0 _ g s0_0 t245 t246 from by repeat (first | (with_reducible first | exact HI0.out | apply IsS90.alloc | apply IsS90.drewN | apply IsS90.drew | apply IsS90.set_1 | apply IsS90.set_2 | refine IsS90.far ?_ NB0_214.out _ | refine IsS90.far ?_ NB0_215.out _ | refine IsS90.far ?_ NB0_235.out _ | refine IsS90.far ?_ NB0_236.out _) | exact HI0.out)) (by (with_reducible repeat (first | apply Kd.Q_alloc | apply Kd.Q_drewN | apply Kd.Q_drew)); exact HO_236002.out) (by decide)) hk (fun _ h => h.2)) (fun _ h => h.1)); have n1_ := zA (Kd.Q_mono (Kd.Q_keep (IsS90.apartQ (show IsS90 w0 _ g s0_0 t245 t246 from by repeat (first | (with_reducible first | exact HI0.out | apply IsS90.alloc | apply IsS90.drewN | apply IsS90.drew | apply IsS90.set_1 | apply IsS90.set_2 | refine IsS90.far ?_ NB0_214.out _ | refine IsS90.far ?_ NB0_215.out _ | refine IsS90.far ?_ NB0_235.out _ | refine IsS90.far ?_ NB0_236.out _) | exact HI0.out)) (by (with_reducible repeat (first | apply Kd.Q_alloc | apply Kd.Q_drewN | apply Kd.Q_drew)); exact HO_237002.out) (by decide)) hk (fun _ h => h.2)) (fun _ h => h.1)); have n2_ := zA (KeepBut.blk hk (g' := gb214) (o := .cells #[.int .i64 0, .int .i64 0, .slice none 0 0] 26 (0, 0)) (bA_ BK214) NB214_0.out (by simp)); have n3_ := zA (KeepBut.blk hk (g' := gb215) (o := .cells #[.int .i64 0, .int .i64 0, .slice none 0 0] 26 (0, 0)) (bA_ BK215) NB215_0.out (by simp)); have n4_ := zA (KeepBut.blk hk (g' := gb235) (o := .cells #[.int .i64 t228, .int .i64 t229, .slice Ao19 t230.length co19] 26 (0, 0)) (bA_ BK235) NB235_0.out (by simp)); have n5_ := zA (KeepBut.blk hk (g' := gb236) (o := .cells #[.int .i64 (wrap64 (1 + t219)), .int .i64 (wrap64 (1 + t225)), u237002] 26 (0, 0)) (bA_ BK236) NB236_0.out (by simp)); have n6_ := zA (KeepBut.trans (by repeat (first | (with_reducible first | exact HK.out | apply KeepBut.set_ | apply keep_drewN | apply keep_drew | apply keep_alloc | refine keep_far ?_ GW214.out _ | refine keep_far ?_ GW215.out _ | refine keep_far ?_ GW235.out _ | refine keep_far ?_ GW236.out _) | exact HK.out)) hk (.inl rfl)); have n7_ := zA (hb); have n8_ := zA (hi); clear HO_236002; clear HO_237002; clear BK214; clear BK215; clear BK235; clear BK236; clear HK; clear HB; clear HI0; have HO_236002 := n0_; have HO_237002 := n1_; have BK214 := n2_; have BK215 := n3_; have BK235 := n4_; have BK236 := n5_; have HK := n6_; have HB := n7_; have HI0 := n8_; clear n0_ n1_ n2_ n3_ n4_ n5_ n6_ n7_ n8_; (try clear hb); (try clear hb2); (try clear hk); (try clear hi)))
    (try simp only [Act.put, zB, zC, zD])
    refine then_wrap (fun _ _ => ?_)
    generalize hq55 : (t247 == 0) = q55
    go_cut [10] (fun v10 wc => ∃ (kq : Nat) (x10_38 : Int) (x1001_38 : Int) (x1002_38 : Int) (x236001_38 : Int) (x236002_38 : List Int) (x237000_38 : Int) (x237002_38 : List Int) (u236002 : Value) (u237002 : Value), v10 = .int .i64 x10_38 ∧ Aside0 (spec_l00Src_job.j5 kq x10_38 s0_0 x1001_38 x1002_38 t228 x236001_38 x236002_38 x237000_38 (wrap64 (1 + t225)) x237002_38 = some (r1, r2, r3, r4, r5, r6, r7, r8, r9)) ∧ Aside0 (kq ≤ k1) ∧ Aside0 (Kd.Q (Kd.int .i64) 3 wc w.heap.size (fun k_ => some k_ ≠ (u237002 : Value).ownBlock) u236002 x236002_38) ∧ Aside0 (Kd.Q (Kd.int .i64) 3 wc w.heap.size (fun k_ => some k_ ≠ (u236002 : Value).ownBlock) u237002 x237002_38) ∧ Aside0 (wc.heap[gb214]? = some (.cells #[.int .i64 0, .int .i64 0, (.slice none 0 0)] 26 (0, 0))) ∧ Aside0 (wc.heap[gb215]? = some (.cells #[.int .i64 0, .int .i64 0, (.slice none 0 0)] 26 (0, 0))) ∧ Aside0 (wc.heap[gb235]? = some (.cells #[.int .i64 t228, .int .i64 x236001_38, u236002] 26 (0, 0))) ∧ Aside0 (wc.heap[gb236]? = some (.cells #[.int .i64 x237000_38, .int .i64 (wrap64 (1 + t225)), u237002] 26 (0, 0))) ∧ Aside0 (IsS90 w0 wc g s0_0 x1001_38 x1002_38) ∧ Aside0 (KeepBut w wc g none) ∧ Aside0 (Below w0.heap.size w0 wc))
    case first =>
     have H := HC39.out
     clear HC39
     by_cases c42 : t247 = 0
     ·rw [if_pos c42] at H
      have c42b0 : (t247 == 0) = true := beq_iff_eq.mpr c42
      have c42b1 : (t247 != 0) = false := bne_eq_false_iff_eq.mpr c42
      clear c42
      obtain rfl : q55 = true := hq55.symm.trans c42b0
      obtain ⟨y250, hy250⟩ : ∃ y_ : List Int, y_ = (([3, 4, (-1)] : List Int)) := ⟨_, rfl⟩
      replace H : ((spec_l00Src_next.f s0_0 t248 t249 3).bind fun bt253 => (if 0 ≤ bt253.1 then (if bt253.1 < (y250.length : Int) then (spec_l00Src_job.j5 k1 (rd y250 bt253.1) s0_0 bt253.2.1 bt253.2.2 t228 t229 t230 (wrap64 (1 + t219)) (wrap64 (1 + t225)) x237002_1) else (none)) else (none))) = some (r1, r2, r3, r4, r5, r6, r7, r8, r9) := by first | (rw [hy250]; with_reducible exact H) | (have H2_ := (Option.bind_some _ _).symm.trans H; rw [hy250]; with_reducible exact H2_) | (have H2_ := (Option.bind_some _ _).symm.trans H; with_reducible exact H2_) | with_reducible exact H | (rw [hy250]; exact H) | exact H
      have Ny250 := zA hy250
      clear hy250
      replace H := Option.bind_eq_some_iff.mp H
      obtain ⟨⟨t253, t254, t255⟩, A430, H⟩ := H
      replace H : (if 0 ≤ t253 then (if t253 < (y250.length : Int) then (spec_l00Src_job.j5 k1 (rd y250 t253) s0_0 t254 t255 t228 t229 t230 (wrap64 (1 + t219)) (wrap64 (1 + t225)) x237002_1) else (none)) else (none)) = some (r1, r2, r3, r4, r5, r6, r7, r8, r9) := H
      have A43 := zA A430
      clear A430
      by_cases c44 : 0 ≤ t253
      ·rw [if_pos c44] at H
       have c44b0 : decide (0 ≤ t253) = true := decide_eq_true c44
       clear c44
       by_cases c45 : t253 < (y250.length : Int)
       ·rw [if_pos c45] at H
        have c45b0 : decide (t253 < (y250.length : Int)) = true := decide_eq_true c45
        clear c45
        have H' := zA H
        clear H
        go_wp2_with (first | ((with_reducible refine gate_dst (N := 57) rfl ?_); refine Kd.R_lit (Kd.int .i64) _ 3 ?hg (N := 57) ?hd (xs := ([3, 4, (-1)] : List Int)) (inner := [.int .i64 3, .int .i64 4, .int .i64 (-1)]) (ok := fun _ => True) (okp := fun _ => True) ?hr ?hp (fun _ hk => hk) trivial (Below.refl _ _) (Nat.le_refl _) (by simp) ?_; (case hd => rfl); (case hg => rfl); (case hr => first | (go_simp; done) | (go_simp; rfl)); (case hp => exact (Reps.one (show Kd.M (Kd.int .i64) _ _ _ 3 [.int .i64 3] from rfl) (Reps.one (show Kd.M (Kd.int .i64) _ _ _ 4 [.int .i64 4] from rfl) (Reps.one (show Kd.M (Kd.int .i64) _ _ _ (-1) [.int .i64 (-1)] from rfl) (Reps.none _ _))))); intro v251 w46 ho47 hb hg_ hnew_; clear hg_ hnew_; (first | rw [← Ny250.out] at ho47 | (simp only [Int.reduceToNat] at ho47; rw [← Ny250.out] at ho47)); have n0_ := zA (Kd.Q_elder' (by (with_reducible repeat (first | apply Kd.Q_alloc | apply Kd.Q_drewN | apply Kd.Q_drew)); exact HO_236002.out) (Kd.R_base ho47) hb); have n1_ := zA (Kd.Q_elder' (by (with_reducible repeat (first | apply Kd.Q_alloc | apply Kd.Q_drewN | apply Kd.Q_drew)); exact HO_237002.out) (Kd.R_base ho47) hb); have n2_ := zA (Kd.R_lower (Kd.R_new' (Kd.R_new' ho47 (Kd.Q_lt (by (with_reducible repeat (first | apply Kd.Q_alloc | apply Kd.Q_drewN | apply Kd.Q_drew)); exact HO_236002.out))) (Kd.Q_lt (by (with_reducible repeat (first | apply Kd.Q_alloc | apply Kd.Q_drewN | apply Kd.Q_drew)); exact HO_237002.out))) (keep_size (w := w) (g := g) (row := none) (by repeat (first | (with_reducible first | exact HK.out | apply KeepBut.set_ | apply keep_drewN | apply keep_drew | apply keep_alloc | refine keep_far ?_ GW214.out _ | refine keep_far ?_ GW215.out _ | refine keep_far ?_ GW235.out _ | refine keep_far ?_ GW236.out _) | exact HK.out)))); have n3_ := zA (zU (g := gb214) (o := .cells #[.int .i64 0, .int .i64 0, .slice none 0 0] 26 (0, 0)) (bA_ BK214) hb); have n4_ := zA (zU (g := gb215) (o := .cells #[.int .i64 0, .int .i64 0, .slice none 0 0] 26 (0, 0)) (bA_ BK215) hb); have n5_ := zA (zU (g := gb235) (o := .cells #[.int .i64 t228, .int .i64 t229, .slice Ao19 t230.length co19] 26 (0, 0)) (bA_ BK235) hb); have n6_ := zA (zU (g := gb236) (o := .cells #[.int .i64 (wrap64 (1 + t219)), .int .i64 (wrap64 (1 + t225)), u237002] 26 (0, 0)) (bA_ BK236) hb); have n7_ := zA (IsS90.below (by repeat (first | (with_reducible first | exact HI0.out | apply IsS90.alloc | apply IsS90.drewN | apply IsS90.drew | apply IsS90.set_1 | apply IsS90.set_2 | refine IsS90.far ?_ NB0_214.out _ | refine IsS90.far ?_ NB0_215.out _ | refine IsS90.far ?_ NB0_235.out _ | refine IsS90.far ?_ NB0_236.out _) | exact HI0.out)) hb); have n8_ := zA (KeepBut.trans (by repeat (first | (with_reducible first | exact HK.out | apply KeepBut.set_ | apply keep_drewN | apply keep_drew | apply keep_alloc | refine keep_far ?_ GW214.out _ | refine keep_far ?_ GW215.out _ | refine keep_far ?_ GW235.out _ | refine keep_far ?_ GW236.out _) | exact HK.out)) (KeepBut.of_below hb g none) (.inl rfl)); have n9_ := zA (below_step (by repeat (first | (with_reducible first | exact HB.out | apply zR | apply zP | apply zQ | refine zS ?_ (IsS90.ge HI0.out) | refine zS ?_ GE214.out | refine zS ?_ GE215.out | refine zS ?_ GE235.out | refine zS ?_ GE236.out) | exact HB.out)) hb); clear HO_236002; clear HO_237002; clear BK214; clear BK215; clear BK235; clear BK236; clear HI0; clear HK; clear HB; have HO_236002 := n0_; have HO_237002 := n1_; have HO252 := n2_; have BK214 := n3_; have BK215 := n4_; have BK235 := n5_; have BK236 := n6_; have HI0 := n7_; have HK := n8_; have HB := n9_; clear n0_ n1_ n2_ n3_ n4_ n5_ n6_ n7_ n8_ n9_; clear hb ho47) | ((with_reducible refine gate_callee (f := 66) rfl ?_); refine goesL_ (some 59) rfl rfl Try.func66 (by kernel_rfl) rfl #[.pointer (some ⟨g, 0, none⟩), .int .i64 3] rfl (by (try simp only [List.map_toArray, List.map_cons, List.map_nil]); first | done | rfl | (simp only [List.length_drop, List.length_take]; rfl)) ?_; (with_reducible refine (spec_l00Src_next.calls g s0_0 t248 t249 3 t253 t254 t255 w0 _ ?side1 ?side2 A43.out).mono ?_); (case side1 => repeat (first | (with_reducible first | exact HI0.out | apply IsS90.alloc | apply IsS90.drewN | apply IsS90.drew | apply IsS90.set_1 | apply IsS90.set_2 | refine IsS90.far ?_ NB0_214.out _ | refine IsS90.far ?_ NB0_215.out _ | refine IsS90.far ?_ NB0_235.out _ | refine IsS90.far ?_ NB0_236.out _) | exact HI0.out)); (case side2 => repeat (first | (with_reducible first | exact HB.out | apply zR | apply zP | apply zQ | refine zS ?_ (IsS90.ge HI0.out) | refine zS ?_ GE214.out | refine zS ?_ GE215.out | refine zS ?_ GE235.out | refine zS ?_ GE236.out) | exact HB.out)); rintro e w48 ⟨rfl, hi, hb, hk⟩; refine ⟨_, rfl, ?_⟩; have n0_ := zA (Kd.Q_mono (Kd.Q_keep (IsS90.apartQ (show IsS90 w0 _ g s0_0 t248 t249 from by repeat (first | (with_reducible first | exact HI0.out | apply IsS90.alloc | apply IsS90.drewN | apply IsS90.drew | apply IsS90.set_1 | apply IsS90.set_2 | refine IsS90.far ?_ NB0_214.out _ | refine IsS90.far ?_ NB0_215.out _ | refine IsS90.far ?_ NB0_235.out _ | refine IsS90.far ?_ NB0_236.out _) | exact HI0.out)) (by (with_reducible repeat (first | apply Kd.Q_alloc | apply Kd.Q_drewN | apply Kd.Q_drew)); exact HO_236002.out) (by decide)) hk (fun _ h => h.2)) (fun _ h => h.1)); have n1_ := zA (Kd.Q_mono (Kd.Q_keep (IsS90.apartQ (show IsS90 w0 _ g s0_0 t248 t249 from by repeat (first | (with_reducible first | exact HI0.out | apply IsS90.alloc | apply IsS90.drewN | apply IsS90.drew | apply IsS90.set_1 | apply IsS90.set_2 | refine IsS90.far ?_ NB0_214.out _ | refine IsS90.far ?_ NB0_215.out _ | refine IsS90.far ?_ NB0_235.out _ | refine IsS90.far ?_ NB0_236.out _) | exact HI0.out)) (by (with_reducible repeat (first | apply Kd.Q_alloc | apply Kd.Q_drewN | apply Kd.Q_drew)); exact HO_237002.out) (by decide)) hk (fun _ h => h.2)) (fun _ h => h.1)); have n2_ := zA (KeepBut.blk hk (g' := gb214) (o := .cells #[.int .i64 0, .int .i64 0, .slice none 0 0] 26 (0, 0)) (bA_ BK214) NB214_0.out (by simp)); have n3_ := zA (KeepBut.blk hk (g' := gb215) (o := .cells #[.int .i64 0, .int .i64 0, .slice none 0 0] 26 (0, 0)) (bA_ BK215) NB215_0.out (by simp)); have n4_ := zA (KeepBut.blk hk (g' := gb235) (o := .cells #[.int .i64 t228, .int .i64 t229, .slice Ao19 t230.length co19] 26 (0, 0)) (bA_ BK235) NB235_0.out (by simp)); have n5_ := zA (KeepBut.blk hk (g' := gb236) (o := .cells #[.int .i64 (wrap64 (1 + t219)), .int .i64 (wrap64 (1 + t225)), u237002] 26 (0, 0)) (bA_ BK236) NB236_0.out (by simp)); have n6_ := zA (Kd.R_mono (Kd.R_keep (IsS90.apart (show IsS90 w0 _ g s0_0 t248 t249 from by repeat (first | (with_reducible first | exact HI0.out | apply IsS90.alloc | apply IsS90.drewN | apply IsS90.drew | apply IsS90.set_1 | apply IsS90.set_2 | refine IsS90.far ?_ NB0_214.out _ | refine IsS90.far ?_ NB0_215.out _ | refine IsS90.far ?_ NB0_235.out _ | refine IsS90.far ?_ NB0_236.out _) | exact HI0.out)) (bC_ HO252) (by decide)) hk (fun _ h => h.2)) (fun _ h => h.1)); have n7_ := zA (KeepBut.trans (by repeat (first | (with_reducible first | exact HK.out | apply KeepBut.set_ | apply keep_drewN | apply keep_drew | apply keep_alloc | refine keep_far ?_ GW214.out _ | refine keep_far ?_ GW215.out _ | refine keep_far ?_ GW235.out _ | refine keep_far ?_ GW236.out _) | exact HK.out)) hk (.inl rfl)); have n8_ := zA (hb); have n9_ := zA (hi); clear HO_236002; clear HO_237002; clear BK214; clear BK215; clear BK235; clear BK236; clear HO252; clear HK; clear HB; clear HI0; have HO_236002 := n0_; have HO_237002 := n1_; have BK214 := n2_; have BK215 := n3_; have BK235 := n4_; have BK236 := n5_; have HO252 := n6_; have HK := n7_; have HB := n8_; have HI0 := n9_; clear n0_ n1_ n2_ n3_ n4_ n5_ n6_ n7_ n8_ n9_; (try clear hb); (try clear hb2); (try clear hk); (try clear hi); obtain ⟨Ao49, co49, eo49⟩ := Kd.R_slice HO252.out; subst eo49; have p256 : 0 ≤ (t253 : Int) := of_decide_eq_true (by first | (with_reducible assumption) | assumption); have q256 : t253 < (y250.length : Int) := of_decide_eq_true (by first | (with_reducible assumption) | assumption); obtain ⟨ad256, e256, hx256_0⟩ := Kd.at_int (zK HO252.out).2.2 t253 p256 q256; cases e256; replace p256 := eq_true p256; replace q256 := eq_true q256))
        go_meet
        case rel => exact ⟨_, (rd y250 t253), (t254), (t255), (t229), (t230), ((wrap64 (1 + t219))), (x237002_1), (.slice Ao19 t230.length co19), (u237002), (by first | rfl | (simp; done) | (simp [*]; done)), H', ⟨by have := HK1.out; first | omega | exact Nat.le_refl _⟩, ⟨by (with_reducible repeat (first | apply Kd.Q_alloc | apply Kd.Q_drewN | apply Kd.Q_drew)); exact Kd.Q_mono HO_236002.out (fun _ hk => hk.1)⟩, ⟨by (with_reducible repeat (first | apply Kd.Q_alloc | apply Kd.Q_drewN | apply Kd.Q_drew)); exact Kd.Q_mono HO_237002.out (fun _ hk => hk.1)⟩, ⟨bA_ BK214⟩, ⟨bA_ BK215⟩, ⟨bA_ BK235⟩, ⟨bA_ BK236⟩, ⟨by repeat (first | (with_reducible first | exact HI0.out | apply IsS90.alloc | apply IsS90.drewN | apply IsS90.drew | apply IsS90.set_1 | apply IsS90.set_2 | refine IsS90.far ?_ NB0_214.out _ | refine IsS90.far ?_ NB0_215.out _ | refine IsS90.far ?_ NB0_235.out _ | refine IsS90.far ?_ NB0_236.out _) | exact HI0.out)⟩, ⟨by repeat (first | (with_reducible first | exact HK.out | apply KeepBut.set_ | apply keep_drewN | apply keep_drew | apply keep_alloc | refine keep_far ?_ GW214.out _ | refine keep_far ?_ GW215.out _ | refine keep_far ?_ GW235.out _ | refine keep_far ?_ GW236.out _) | exact HK.out)⟩, ⟨by repeat (first | (with_reducible first | exact HB.out | apply zR | apply zP | apply zQ | refine zS ?_ (IsS90.ge HI0.out) | refine zS ?_ GE214.out | refine zS ?_ GE215.out | refine zS ?_ GE235.out | refine zS ?_ GE236.out) | exact HB.out)⟩⟩
       ·rw [if_neg c45] at H
        exact absurd H (by simp)
      ·rw [if_neg c44] at H
       exact absurd H (by simp)
     ·rw [if_neg c42] at H
      have c42b0 : (t247 == 0) = false := beq_eq_false_iff_ne.mpr c42
      have c42b1 : (t247 != 0) = true := bne_iff_ne.mpr c42
      obtain rfl : q55 = false := hq55.symm.trans c42b0
      have HC50 := zA H
      clear H
      go_upto_if 62 with (fail)
      generalize hq62 : (t247 == 1) = q62
      go_cut [] (fun wc => ∃ (kq : Nat) (x1001_49 : Int) (x1002_49 : Int) (x236001_49 : Int) (x236002_49 : List Int) (x237000_49 : Int) (x237002_49 : List Int) (u236002 : Value) (u237002 : Value), Aside0 (spec_l00Src_job.j4 kq t244 s0_0 x1001_49 x1002_49 t228 x236001_49 x236002_49 x237000_49 (wrap64 (1 + t225)) x237002_49 = some (r1, r2, r3, r4, r5, r6, r7, r8, r9)) ∧ Aside0 (kq ≤ k1) ∧ Aside0 (Kd.Q (Kd.int .i64) 3 wc w.heap.size (fun k_ => some k_ ≠ (u237002 : Value).ownBlock) u236002 x236002_49) ∧ Aside0 (Kd.Q (Kd.int .i64) 3 wc w.heap.size (fun k_ => some k_ ≠ (u236002 : Value).ownBlock) u237002 x237002_49) ∧ Aside0 (wc.heap[gb214]? = some (.cells #[.int .i64 0, .int .i64 0, (.slice none 0 0)] 26 (0, 0))) ∧ Aside0 (wc.heap[gb215]? = some (.cells #[.int .i64 0, .int .i64 0, (.slice none 0 0)] 26 (0, 0))) ∧ Aside0 (wc.heap[gb235]? = some (.cells #[.int .i64 t228, .int .i64 x236001_49, u236002] 26 (0, 0))) ∧ Aside0 (wc.heap[gb236]? = some (.cells #[.int .i64 x237000_49, .int .i64 (wrap64 (1 + t225)), u237002] 26 (0, 0))) ∧ Aside0 (IsS90 w0 wc g s0_0 x1001_49 x1002_49) ∧ Aside0 (KeepBut w wc g none) ∧ Aside0 (Below w0.heap.size w0 wc))
      case first =>
       have H := HC50.out
       clear HC50
       by_cases c51 : t247 = 1
       ·rw [if_pos c51] at H
        have c51b0 : (t247 == 1) = true := beq_iff_eq.mpr c51
        have c51b1 : (t247 != 1) = false := bne_eq_false_iff_eq.mpr c51
        clear c51
        obtain rfl : q62 = true := hq62.symm.trans c51b0
        replace H := Option.bind_eq_some_iff.mp H
        obtain ⟨⟨t257, t258, t259⟩, A520, H⟩ := H
        replace H : ((some (([24, 25, (-1)] : List Int) : List Int)).bind fun y260 => ((spec_l00Src_next.f s0_0 t258 t259 3).bind fun bt263 => (if 0 ≤ bt263.1 then (if bt263.1 < (y260.length : Int) then (if 0 ≤ t257 then (if t257 < (t230.length : Int) then (spec_l00Src_job.j4 k1 t244 s0_0 bt263.2.1 bt263.2.2 t228 t229 (t230.set (t257 : Int).toNat (rd y260 bt263.1)) (wrap64 (1 + t219)) (wrap64 (1 + t225)) x237002_1) else (none)) else (none)) else (none)) else (none)))) = some (r1, r2, r3, r4, r5, r6, r7, r8, r9) := H
        have A52 := zA A520
        clear A520
        obtain ⟨y260, hy260⟩ : ∃ y_ : List Int, y_ = (([24, 25, (-1)] : List Int)) := ⟨_, rfl⟩
        replace H : ((spec_l00Src_next.f s0_0 t258 t259 3).bind fun bt263 => (if 0 ≤ bt263.1 then (if bt263.1 < (y260.length : Int) then (if 0 ≤ t257 then (if t257 < (t230.length : Int) then (spec_l00Src_job.j4 k1 t244 s0_0 bt263.2.1 bt263.2.2 t228 t229 (t230.set (t257 : Int).toNat (rd y260 bt263.1)) (wrap64 (1 + t219)) (wrap64 (1 + t225)) x237002_1) else (none)) else (none)) else (none)) else (none))) = some (r1, r2, r3, r4, r5, r6, r7, r8, r9) := by first | (rw [hy260]; with_reducible exact H) | (have H2_ := (Option.bind_some _ _).symm.trans H; rw [hy260]; with_reducible exact H2_) | (have H2_ := (Option.bind_some _ _).symm.trans H; with_reducible exact H2_) | with_reducible exact H | (rw [hy260]; exact H) | exact H
        have Ny260 := zA hy260
        clear hy260
        replace H := Option.bind_eq_some_iff.mp H
        obtain ⟨⟨t263, t264, t265⟩, A530, H⟩ := H
        replace H : (if 0 ≤ t263 then (if t263 < (y260.length : Int) then (if 0 ≤ t257 then (if t257 < (t230.length : Int) then (spec_l00Src_job.j4 k1 t244 s0_0 t264 t265 t228 t229 (t230.set (t257 : Int).toNat (rd y260 t263)) (wrap64 (1 + t219)) (wrap64 (1 + t225)) x237002_1) else (none)) else (none)) else (none)) else (none)) = some (r1, r2, r3, r4, r5, r6, r7, r8, r9) := H
        have A53 := zA A530
        clear A530
        by_cases c54 : 0 ≤ t263
        ·rw [if_pos c54] at H
         have c54b0 : decide (0 ≤ t263) = true := decide_eq_true c54
         clear c54
         by_cases c55 : t263 < (y260.length : Int)
         ·rw [if_pos c55] at H
          have c55b0 : decide (t263 < (y260.length : Int)) = true := decide_eq_true c55
          clear c55
          by_cases c56 : 0 ≤ t257
          ·rw [if_pos c56] at H
           have c56b0 : decide (0 ≤ t257) = true := decide_eq_true c56
           clear c56
           by_cases c57 : t257 < (t230.length : Int)
           ·rw [if_pos c57] at H
            have c57b0 : decide (t257 < (t230.length : Int)) = true := decide_eq_true c57
            clear c57
            obtain ⟨y267, hy267⟩ : ∃ y_ : List Int, y_ = (t230.set (t257 : Int).toNat (rd y260 t263)) := ⟨_, rfl⟩
            replace H : (spec_l00Src_job.j4 k1 t244 s0_0 t264 t265 t228 t229 y267 (wrap64 (1 + t219)) (wrap64 (1 + t225)) x237002_1) = some (r1, r2, r3, r4, r5, r6, r7, r8, r9) := by first | (rw [hy267]; with_reducible exact H) | (have H2_ := (Option.bind_some _ _).symm.trans H; rw [hy267]; with_reducible exact H2_) | (have H2_ := (Option.bind_some _ _).symm.trans H; with_reducible exact H2_) | with_reducible exact H | (rw [hy267]; exact H) | exact H
            have Ny267 := zA hy267
            clear hy267
            have H' := zA H
            clear H
            try go_wp2
            have pi266 : (0 ≤ (t263 : Int)) = True := eq_true (of_decide_eq_true (by first | (with_reducible assumption) | assumption))
            have qi266 : (t263 < (y260.length : Int)) = True := eq_true (of_decide_eq_true (by first | (with_reducible assumption) | assumption))
            have n0_ := zA (Kd.Q_drew HO_236002.out)
            have n1_ := zA (Kd.Q_drew HO_237002.out)
            have n2_ := zA (zN BK214.out)
            have n3_ := zA (zN BK215.out)
            have n4_ := zA (zN BK235.out)
            have n5_ := zA (zN BK236.out)
            have n6_ := zA (IsS90.drew HI0.out)
            have n7_ := zA (keep_drew HK.out)
            have n8_ := zA (zQ HB.out)
            clear HO_236002
            clear HO_237002
            clear BK214
            clear BK215
            clear BK235
            clear BK236
            clear HI0
            clear HK
            clear HB
            have HO_236002 := n0_
            have HO_237002 := n1_
            have BK214 := n2_
            have BK215 := n3_
            have BK235 := n4_
            have BK236 := n5_
            have HI0 := n6_
            have HK := n7_
            have HB := n8_
            clear n0_ n1_ n2_ n3_ n4_ n5_ n6_ n7_ n8_
            refine start_ (n := 14) (S := fun w' => w'.cell? ⟨gb235, 0, none⟩ = some (.int .i64 t228) ∧ w'.cell? ⟨gb235, 1, none⟩ = some (.int .i64 t229) ∧ w'.cell? ⟨gb235, 2, none⟩ = some (.slice Ao19 t230.length co19)) (ds := [13]) #[false, false, false, false, false, false, false, false, false, false, false, false, false, false] (by kernel_rfl) rfl rfl ⟨(blk_cell BK235.out 0).trans rfl, (blk_cell BK235.out 1).trans rfl, (blk_cell BK235.out 2).trans rfl⟩ (fun hHeld => ?_); refine with_tabW spec_l00Src_job.tab14 spec_l00Src_job.bits14 (fun HT_ HW_ => ?_)
            generalize w41.drew = w59 at HO_236002 HO_237002 BK214 BK215 BK235 BK236 HI0 HK HB hHeld ⊢
            refine pure_ (i := 0) (N := some 64) (v := ?_) (a' := ?_) #[true, false, false, false, false, false, false, false, false, false, false, false, false, false] rfl rfl (any_of HT_.out (by kernel_rfl)) (fun _ _ _ h => h) (Or.inl ⟨by rfl, ?_⟩) ?_ ?_
            rotate_left
            ·intro w'
             go_simp
             with_reducible rfl
            rotate_left
            ·simp only [Act.put, zB, zC, zD, i64_w, i32_w]
             rfl
            refine pure_ (i := 2) (N := some 66) (v := ?_) (a' := ?_) #[true, false, true, false, false, false, false, false, false, false, false, false, false, false] rfl rfl (any_of HT_.out (by kernel_rfl)) (fun _ _ _ h => h) (Or.inl ⟨by rfl, ?_⟩) ?_ ?_
            rotate_left
            ·intro w'
             go_simp
             with_reducible rfl
            rotate_left
            ·simp only [Act.put, zB, zC, zD, i64_w, i32_w]
             rfl
            refine pure_ (i := 3) (N := some 67) (v := ?_) (a' := ?_) #[true, false, true, true, false, false, false, false, false, false, false, false, false, false] rfl rfl (any_of HT_.out (by kernel_rfl)) (fun _ _ _ h => h) (Or.inl ⟨by rfl, ?_⟩) ?_ ?_
            rotate_left
            ·intro w'
             go_simp
             with_reducible rfl
            rotate_left
            ·simp only [Act.put, zB, zC, zD, i64_w, i32_w]
             rfl
            refine pure_ (i := 8) (N := some 72) (v := ?_) (a' := ?_) #[true, false, true, true, false, false, false, false, true, false, false, false, false, false] rfl rfl (any_of HT_.out (by kernel_rfl)) (fun _ _ _ h => h) (Or.inl ⟨by rfl, ?_⟩) ?_ ?_
            rotate_left
            ·intro w'
             go_simp
             with_reducible rfl
            rotate_left
            ·simp only [Act.put, zB, zC, zD, i64_w, i32_w]
             rfl
            refine take_ (i := 1) (N := some 65) (v := ?_) (a' := ?_) #[true, true, true, true, false, false, false, false, true, false, false, false, false, false] rfl rfl (take_ofW HT_.out HW_.out (by kernel_rfl)) (fun _ _ _ h => h) (Or.inl ⟨by rfl, ?_⟩) hHeld ?_ ?_
            rotate_left
            ·rintro w' ⟨s0, s1, s2⟩
             go_simp
             with_reducible rfl
            rotate_left
            ·simp only [Act.put, zB, zC, zD, i64_w, i32_w]
             rfl
            refine take_ (i := 4) (N := some 68) (v := ?_) (a' := ?_) #[true, true, true, true, true, false, false, false, true, false, false, false, false, false] rfl rfl (take_ofW HT_.out HW_.out (by kernel_rfl)) (fun _ _ _ h => h) (Or.inl ⟨by rfl, ?_⟩) hHeld ?_ ?_
            rotate_left
            ·rintro w' ⟨s0, s1, s2⟩
             go_simp
             with_reducible rfl
            rotate_left
            ·simp only [Act.put, zB, zC, zD, i64_w, i32_w]
             rfl
            refine pure_ (i := 5) (N := some 69) (v := ?_) (a' := ?_) #[true, true, true, true, true, true, false, false, true, false, false, false, false, false] rfl rfl (any_of HT_.out (by kernel_rfl)) (fun _ _ _ h => h) (Or.inl ⟨by rfl, ?_⟩) ?_ ?_
            rotate_left
            ·intro w'
             go_simp
             with_reducible rfl
            rotate_left
            ·simp only [Act.put, zB, zC, zD, i64_w, i32_w]
             rfl
            refine join_ (σ := Value × Addr) 4 #[true, true, true, true, true, true, true, true, true, true, false, false, false, false] (fun s_ => [(70, .int .i64 t257), (71, s_.1), (73, .int .i64 t263)]) (fun s_ w' => (w'.cell? ⟨gb235, 0, none⟩ = some (.int .i64 t228) ∧ w'.cell? ⟨gb235, 1, none⟩ = some (.int .i64 t229) ∧ w'.cell? ⟨gb235, 2, none⟩ = some (.slice Ao19 t230.length co19)) ∧ (Kd.R (Kd.int .i64) 3 w' w.heap.size (fun k_ => some k_ ≠ (.slice Ao19 t230.length co19 : Value).ownBlock ∧ some k_ ≠ (u237002 : Value).ownBlock) s_.1 y260) ∧ (Kd.Q (Kd.int .i64) 3 w' w.heap.size (fun k_ => some k_ ≠ (s_.1 : Value).ownBlock ∧ some k_ ≠ (u237002 : Value).ownBlock) (.slice Ao19 t230.length co19) t230) ∧ (Kd.Q (Kd.int .i64) 3 w' w.heap.size (fun k_ => some k_ ≠ (s_.1 : Value).ownBlock ∧ some k_ ≠ (.slice Ao19 t230.length co19 : Value).ownBlock) u237002 x237002_1) ∧ (∃ c_, (s_.1 : Value) = .slice (some s_.2) y260.length c_) ∧ (w'.heap[gb214]? = some (.cells #[.int .i64 0, .int .i64 0, .slice none 0 0] 26 (0, 0))) ∧ (w'.heap[gb215]? = some (.cells #[.int .i64 0, .int .i64 0, .slice none 0 0] 26 (0, 0))) ∧ (w'.heap[gb235]? = some (.cells #[.int .i64 t228, .int .i64 t229, .slice Ao19 t230.length co19] 26 (0, 0))) ∧ (w'.heap[gb236]? = some (.cells #[.int .i64 (wrap64 (1 + t219)), .int .i64 (wrap64 (1 + t225)), u237002] 26 (0, 0))) ∧ (IsS90 w0 w' g s0_0 t264 t265) ∧ (KeepBut w w' g none) ∧ (Below w0.heap.size w0 w')) ?_ ?_
            rotate_left
            ·intro hCont
             refine two_ (i := 6) (j := 7) (Ni := some 70) (Nj := some 71) #[true, true, true, true, true, true, true, false, true, false, false, false, false, false] #[true, true, true, true, true, true, false, true, true, false, false, false, false, false] rfl rfl rfl rfl (two_of HT_.out (by kernel_rfl)) (by decide) (by decide) (fun K hK => ?_) (fun K hK => ?_)
             ·skip
              refine goes_ Try.func66 (by kernel_rfl) rfl #[.pointer (some ⟨g, 0, none⟩), .int .i64 (t230.length : Int)] (by rfl) rfl rfl (by (try simp only [List.map_toArray, List.map_cons, List.map_nil]); first | done | rfl | (simp only [List.length_drop, List.length_take]; rfl)) ?_
              with_reducible refine (spec_l00Src_next.calls g s0_0 t248 t249 (t230.length : Int) t257 t258 t259 w0 _ ?side1 ?side2 A52.out).mono ?_
              (case side1 => repeat (first | (with_reducible first | exact HI0.out | apply IsS90.alloc | apply IsS90.drewN | apply IsS90.drew | apply IsS90.set_1 | apply IsS90.set_2 | refine IsS90.far ?_ NB0_214.out _ | refine IsS90.far ?_ NB0_215.out _ | refine IsS90.far ?_ NB0_235.out _ | refine IsS90.far ?_ NB0_236.out _) | exact HI0.out))
              (case side2 => repeat (first | (with_reducible first | exact HB.out | apply zR | apply zP | apply zQ | refine zS ?_ (IsS90.ge HI0.out) | refine zS ?_ GE214.out | refine zS ?_ GE215.out | refine zS ?_ GE235.out | refine zS ?_ GE236.out) | exact HB.out))
              rintro e w60 ⟨rfl, hi, hb, hk⟩
              refine ⟨_, rfl, ?_⟩
              have n0_ := zA (Kd.Q_mono (Kd.Q_keep (IsS90.apartQ (show IsS90 w0 _ g s0_0 t248 t249 from by repeat (first | (with_reducible first | exact HI0.out | apply IsS90.alloc | apply IsS90.drewN | apply IsS90.drew | apply IsS90.set_1 | apply IsS90.set_2 | refine IsS90.far ?_ NB0_214.out _ | refine IsS90.far ?_ NB0_215.out _ | refine IsS90.far ?_ NB0_235.out _ | refine IsS90.far ?_ NB0_236.out _) | exact HI0.out)) (by (with_reducible repeat (first | apply Kd.Q_alloc | apply Kd.Q_drewN | apply Kd.Q_drew)); exact HO_236002.out) (by decide)) hk (fun _ h => h.2)) (fun _ h => h.1))
              have n1_ := zA (Kd.Q_mono (Kd.Q_keep (IsS90.apartQ (show IsS90 w0 _ g s0_0 t248 t249 from by repeat (first | (with_reducible first | exact HI0.out | apply IsS90.alloc | apply IsS90.drewN | apply IsS90.drew | apply IsS90.set_1 | apply IsS90.set_2 | refine IsS90.far ?_ NB0_214.out _ | refine IsS90.far ?_ NB0_215.out _ | refine IsS90.far ?_ NB0_235.out _ | refine IsS90.far ?_ NB0_236.out _) | exact HI0.out)) (by (with_reducible repeat (first | apply Kd.Q_alloc | apply Kd.Q_drewN | apply Kd.Q_drew)); exact HO_237002.out) (by decide)) hk (fun _ h => h.2)) (fun _ h => h.1))
              have n2_ := zA (KeepBut.blk hk (g' := gb214) (o := .cells #[.int .i64 0, .int .i64 0, .slice none 0 0] 26 (0, 0)) (bA_ BK214) NB214_0.out (by simp))
              have n3_ := zA (KeepBut.blk hk (g' := gb215) (o := .cells #[.int .i64 0, .int .i64 0, .slice none 0 0] 26 (0, 0)) (bA_ BK215) NB215_0.out (by simp))
              have n4_ := zA (KeepBut.blk hk (g' := gb235) (o := .cells #[.int .i64 t228, .int .i64 t229, .slice Ao19 t230.length co19] 26 (0, 0)) (bA_ BK235) NB235_0.out (by simp))
              have n5_ := zA (KeepBut.blk hk (g' := gb236) (o := .cells #[.int .i64 (wrap64 (1 + t219)), .int .i64 (wrap64 (1 + t225)), u237002] 26 (0, 0)) (bA_ BK236) NB236_0.out (by simp))
              have n6_ := zA (KeepBut.trans (by repeat (first | (with_reducible first | exact HK.out | apply KeepBut.set_ | apply keep_drewN | apply keep_drew | apply keep_alloc | refine keep_far ?_ GW214.out _ | refine keep_far ?_ GW215.out _ | refine keep_far ?_ GW235.out _ | refine keep_far ?_ GW236.out _) | exact HK.out)) hk (.inl rfl))
              have n7_ := zA (hb)
              have n8_ := zA (hi)
              clear HO_236002
              clear HO_237002
              clear BK214
              clear BK215
              clear BK235
              clear BK236
              clear HK
              clear HB
              clear HI0
              have HO_236002 := n0_
              have HO_237002 := n1_
              have BK214 := n2_
              have BK215 := n3_
              have BK235 := n4_
              have BK236 := n5_
              have HK := n6_
              have HB := n7_
              have HI0 := n8_
              clear n0_ n1_ n2_ n3_ n4_ n5_ n6_ n7_ n8_
              (try clear hb)
              (try clear hb2)
              (try clear hk)
              (try clear hi)
              refine hK.out _ _ ⟨(blk_cell BK235.out 0).trans rfl, (blk_cell BK235.out 1).trans rfl, (blk_cell BK235.out 2).trans rfl⟩ (fun hHeld => ?_)
              clear hK K
              refine norm_ (a' := ?_) ?_ ?_
              rotate_left
              ·show Act.put _ (some 70) _ = _
               simp only [Act.put, zB, zC, zD, i64_w, i32_w]
               rfl
              refine two_ (i := 7) (j := 9) (Ni := some 71) (Nj := some 73) #[true, true, true, true, true, true, true, true, true, false, false, false, false, false] #[true, true, true, true, true, true, true, false, true, true, false, false, false, false] rfl rfl rfl rfl (two_of HT_.out (by kernel_rfl)) (by decide) (by decide) (fun K hK => ?_) (fun K hK => ?_)
              ·skip
               refine Kd.R_lit_step (Kd.int .i64) _ 3 ?hg (N := 71) ?hd (xs := ([24, 25, (-1)] : List Int)) (inner := [.int .i64 24, .int .i64 25, .int .i64 (-1)]) (ok := fun _ => True) (okp := fun _ => True) ?hr ?hp (fun _ hk => hk) trivial (Below.refl _ _) (Nat.le_refl _) (by simp) ?_; (case hd => rfl); (case hg => rfl); (case hr => first | (go_simp; done) | (go_simp; rfl)); (case hp => exact (Reps.one (show Kd.M (Kd.int .i64) _ _ _ 24 [.int .i64 24] from rfl) (Reps.one (show Kd.M (Kd.int .i64) _ _ _ 25 [.int .i64 25] from rfl) (Reps.one (show Kd.M (Kd.int .i64) _ _ _ (-1) [.int .i64 (-1)] from rfl) (Reps.none _ _)))))
               intro v261 w61 ho62 hb hg_ hnew_
               clear hg_ hnew_
               (first | rw [← Ny260.out] at ho62 | (simp only [Int.reduceToNat] at ho62; rw [← Ny260.out] at ho62))
               have n0_ := zA (Kd.Q_elder' (by (with_reducible repeat (first | apply Kd.Q_alloc | apply Kd.Q_drewN | apply Kd.Q_drew)); exact HO_236002.out) (Kd.R_base ho62) hb)
               have n1_ := zA (Kd.Q_elder' (by (with_reducible repeat (first | apply Kd.Q_alloc | apply Kd.Q_drewN | apply Kd.Q_drew)); exact HO_237002.out) (Kd.R_base ho62) hb)
               have n2_ := zA (Kd.R_lower (Kd.R_new' (Kd.R_new' ho62 (Kd.Q_lt (by (with_reducible repeat (first | apply Kd.Q_alloc | apply Kd.Q_drewN | apply Kd.Q_drew)); exact HO_236002.out))) (Kd.Q_lt (by (with_reducible repeat (first | apply Kd.Q_alloc | apply Kd.Q_drewN | apply Kd.Q_drew)); exact HO_237002.out))) (keep_size (w := w) (g := g) (row := none) (by repeat (first | (with_reducible first | exact HK.out | apply KeepBut.set_ | apply keep_drewN | apply keep_drew | apply keep_alloc | refine keep_far ?_ GW214.out _ | refine keep_far ?_ GW215.out _ | refine keep_far ?_ GW235.out _ | refine keep_far ?_ GW236.out _) | exact HK.out))))
               have n3_ := zA (zU (g := gb214) (o := .cells #[.int .i64 0, .int .i64 0, .slice none 0 0] 26 (0, 0)) (bA_ BK214) hb)
               have n4_ := zA (zU (g := gb215) (o := .cells #[.int .i64 0, .int .i64 0, .slice none 0 0] 26 (0, 0)) (bA_ BK215) hb)
               have n5_ := zA (zU (g := gb235) (o := .cells #[.int .i64 t228, .int .i64 t229, .slice Ao19 t230.length co19] 26 (0, 0)) (bA_ BK235) hb)
               have n6_ := zA (zU (g := gb236) (o := .cells #[.int .i64 (wrap64 (1 + t219)), .int .i64 (wrap64 (1 + t225)), u237002] 26 (0, 0)) (bA_ BK236) hb)
               have n7_ := zA (IsS90.below (by repeat (first | (with_reducible first | exact HI0.out | apply IsS90.alloc | apply IsS90.drewN | apply IsS90.drew | apply IsS90.set_1 | apply IsS90.set_2 | refine IsS90.far ?_ NB0_214.out _ | refine IsS90.far ?_ NB0_215.out _ | refine IsS90.far ?_ NB0_235.out _ | refine IsS90.far ?_ NB0_236.out _) | exact HI0.out)) hb)
               have n8_ := zA (KeepBut.trans (by repeat (first | (with_reducible first | exact HK.out | apply KeepBut.set_ | apply keep_drewN | apply keep_drew | apply keep_alloc | refine keep_far ?_ GW214.out _ | refine keep_far ?_ GW215.out _ | refine keep_far ?_ GW235.out _ | refine keep_far ?_ GW236.out _) | exact HK.out)) (KeepBut.of_below hb g none) (.inl rfl))
               have n9_ := zA (below_step (by repeat (first | (with_reducible first | exact HB.out | apply zR | apply zP | apply zQ | refine zS ?_ (IsS90.ge HI0.out) | refine zS ?_ GE214.out | refine zS ?_ GE215.out | refine zS ?_ GE235.out | refine zS ?_ GE236.out) | exact HB.out)) hb)
               clear HO_236002
               clear HO_237002
               clear BK214
               clear BK215
               clear BK235
               clear BK236
               clear HI0
               clear HK
               clear HB
               have HO_236002 := n0_
               have HO_237002 := n1_
               have HO262 := n2_
               have BK214 := n3_
               have BK215 := n4_
               have BK235 := n5_
               have BK236 := n6_
               have HI0 := n7_
               have HK := n8_
               have HB := n9_
               clear n0_ n1_ n2_ n3_ n4_ n5_ n6_ n7_ n8_ n9_
               clear hb ho62
               obtain ⟨Ao63, co63, eo63⟩ := Kd.R_slice HO262.out
               subst eo63
               obtain ⟨ado63, fo63, _⟩ := Kd.at_int (zK HO262.out).2.2 0 (by decide) (by rw [Ny260.out]; simp)
               cases fo63
               refine hK.out _ _ ⟨(blk_cell BK235.out 0).trans rfl, (blk_cell BK235.out 1).trans rfl, (blk_cell BK235.out 2).trans rfl⟩ (fun hHeld => ?_)
               clear hK K
               refine norm_ (a' := ?_) ?_ ?_
               rotate_left
               ·show Act.put _ (some 71) _ = _
                simp only [Act.put, zB, zC, zD, i64_w, i32_w]
                rfl
               refine one_ (i := 9) (N := some 73) #[true, true, true, true, true, true, true, true, true, true, false, false, false, false] rfl rfl (one_of HT_.out (by kernel_rfl)) (by decide) (fun K hK => ?_)
               refine goes_ Try.func66 (by kernel_rfl) rfl #[.pointer (some ⟨g, 0, none⟩), .int .i64 3] (by rfl) rfl rfl (by (try simp only [List.map_toArray, List.map_cons, List.map_nil]); first | done | rfl | (simp only [List.length_drop, List.length_take]; rfl)) ?_
               with_reducible refine (spec_l00Src_next.calls g s0_0 t258 t259 3 t263 t264 t265 w0 _ ?side1 ?side2 A53.out).mono ?_
               (case side1 => repeat (first | (with_reducible first | exact HI0.out | apply IsS90.alloc | apply IsS90.drewN | apply IsS90.drew | apply IsS90.set_1 | apply IsS90.set_2 | refine IsS90.far ?_ NB0_214.out _ | refine IsS90.far ?_ NB0_215.out _ | refine IsS90.far ?_ NB0_235.out _ | refine IsS90.far ?_ NB0_236.out _) | exact HI0.out))
               (case side2 => repeat (first | (with_reducible first | exact HB.out | apply zR | apply zP | apply zQ | refine zS ?_ (IsS90.ge HI0.out) | refine zS ?_ GE214.out | refine zS ?_ GE215.out | refine zS ?_ GE235.out | refine zS ?_ GE236.out) | exact HB.out))
               rintro e w64 ⟨rfl, hi, hb, hk⟩
               refine ⟨_, rfl, ?_⟩
               have n0_ := zA (Kd.Q_mono (Kd.Q_keep (IsS90.apartQ (show IsS90 w0 _ g s0_0 t258 t259 from by repeat (first | (with_reducible first | exact HI0.out | apply IsS90.alloc | apply IsS90.drewN | apply IsS90.drew | apply IsS90.set_1 | apply IsS90.set_2 | refine IsS90.far ?_ NB0_214.out _ | refine IsS90.far ?_ NB0_215.out _ | refine IsS90.far ?_ NB0_235.out _ | refine IsS90.far ?_ NB0_236.out _) | exact HI0.out)) (by (with_reducible repeat (first | apply Kd.Q_alloc | apply Kd.Q_drewN | apply Kd.Q_drew)); exact HO_236002.out) (by decide)) hk (fun _ h => h.2)) (fun _ h => h.1))
               have n1_ := zA (Kd.Q_mono (Kd.Q_keep (IsS90.apartQ (show IsS90 w0 _ g s0_0 t258 t259 from by repeat (first | (with_reducible first | exact HI0.out | apply IsS90.alloc | apply IsS90.drewN | apply IsS90.drew | apply IsS90.set_1 | apply IsS90.set_2 | refine IsS90.far ?_ NB0_214.out _ | refine IsS90.far ?_ NB0_215.out _ | refine IsS90.far ?_ NB0_235.out _ | refine IsS90.far ?_ NB0_236.out _) | exact HI0.out)) (by (with_reducible repeat (first | apply Kd.Q_alloc | apply Kd.Q_drewN | apply Kd.Q_drew)); exact HO_237002.out) (by decide)) hk (fun _ h => h.2)) (fun _ h => h.1))
               have n2_ := zA (KeepBut.blk hk (g' := gb214) (o := .cells #[.int .i64 0, .int .i64 0, .slice none 0 0] 26 (0, 0)) (bA_ BK214) NB214_0.out (by simp))
               have n3_ := zA (KeepBut.blk hk (g' := gb215) (o := .cells #[.int .i64 0, .int .i64 0, .slice none 0 0] 26 (0, 0)) (bA_ BK215) NB215_0.out (by simp))
               have n4_ := zA (KeepBut.blk hk (g' := gb235) (o := .cells #[.int .i64 t228, .int .i64 t229, .slice Ao19 t230.length co19] 26 (0, 0)) (bA_ BK235) NB235_0.out (by simp))
               have n5_ := zA (KeepBut.blk hk (g' := gb236) (o := .cells #[.int .i64 (wrap64 (1 + t219)), .int .i64 (wrap64 (1 + t225)), u237002] 26 (0, 0)) (bA_ BK236) NB236_0.out (by simp))
               have n6_ := zA (Kd.R_mono (Kd.R_keep (IsS90.apart (show IsS90 w0 _ g s0_0 t258 t259 from by repeat (first | (with_reducible first | exact HI0.out | apply IsS90.alloc | apply IsS90.drewN | apply IsS90.drew | apply IsS90.set_1 | apply IsS90.set_2 | refine IsS90.far ?_ NB0_214.out _ | refine IsS90.far ?_ NB0_215.out _ | refine IsS90.far ?_ NB0_235.out _ | refine IsS90.far ?_ NB0_236.out _) | exact HI0.out)) (bC_ HO262) (by decide)) hk (fun _ h => h.2)) (fun _ h => h.1))
               have n7_ := zA (KeepBut.trans (by repeat (first | (with_reducible first | exact HK.out | apply KeepBut.set_ | apply keep_drewN | apply keep_drew | apply keep_alloc | refine keep_far ?_ GW214.out _ | refine keep_far ?_ GW215.out _ | refine keep_far ?_ GW235.out _ | refine keep_far ?_ GW236.out _) | exact HK.out)) hk (.inl rfl))
               have n8_ := zA (hb)
               have n9_ := zA (hi)
               clear HO_236002
               clear HO_237002
               clear BK214
               clear BK215
               clear BK235
               clear BK236
               clear HO262
               clear HK
               clear HB
               clear HI0
               have HO_236002 := n0_
               have HO_237002 := n1_
               have BK214 := n2_
               have BK215 := n3_
               have BK235 := n4_
               have BK236 := n5_
               have HO262 := n6_
               have HK := n7_
               have HB := n8_
               have HI0 := n9_
               clear n0_ n1_ n2_ n3_ n4_ n5_ n6_ n7_ n8_ n9_
               (try clear hb)
               (try clear hb2)
               (try clear hk)
               (try clear hi)
               refine hK.out _ _ ⟨(blk_cell BK235.out 0).trans rfl, (blk_cell BK235.out 1).trans rfl, (blk_cell BK235.out 2).trans rfl⟩ (fun hHeld => ?_)
               clear hK K
               refine norm_ (a' := ?_) ?_ ?_
               rotate_left
               ·show Act.put _ (some 73) _ = _
                simp only [Act.put, zB, zC, zD, i64_w, i32_w]
                rfl
               exact norm_ (by simp only [putAll, Act.put, zB, zC, zD]) (hCont (.slice (some ado63) y260.length co63, ado63) _ ⟨hHeld, (by (with_reducible repeat (first | apply zF | apply zE | apply zG)); exact Kd.R_mono HO262.out (fun _ hk => ⟨hk.1.2, hk.2⟩)), (by (with_reducible repeat (first | apply Kd.Q_alloc | apply Kd.Q_drewN | apply Kd.Q_drew)); exact Kd.Q_mono HO_236002.out (fun _ hk => ⟨hk.2, hk.1⟩)), (by (with_reducible repeat (first | apply Kd.Q_alloc | apply Kd.Q_drewN | apply Kd.Q_drew)); exact Kd.Q_mono HO_237002.out (fun _ hk => ⟨hk.2, hk.1⟩)), ⟨_, rfl⟩, (bA_ BK214), (bA_ BK215), (bA_ BK235), (bA_ BK236), (by repeat (first | (with_reducible first | exact HI0.out | apply IsS90.alloc | apply IsS90.drewN | apply IsS90.drew | apply IsS90.set_1 | apply IsS90.set_2 | refine IsS90.far ?_ NB0_214.out _ | refine IsS90.far ?_ NB0_215.out _ | refine IsS90.far ?_ NB0_235.out _ | refine IsS90.far ?_ NB0_236.out _) | exact HI0.out)), (by repeat (first | (with_reducible first | exact HK.out | apply KeepBut.set_ | apply keep_drewN | apply keep_drew | apply keep_alloc | refine keep_far ?_ GW214.out _ | refine keep_far ?_ GW215.out _ | refine keep_far ?_ GW235.out _ | refine keep_far ?_ GW236.out _) | exact HK.out)), (by repeat (first | (with_reducible first | exact HB.out | apply zR | apply zP | apply zQ | refine zS ?_ (IsS90.ge HI0.out) | refine zS ?_ GE214.out | refine zS ?_ GE215.out | refine zS ?_ GE235.out | refine zS ?_ GE236.out) | exact HB.out))⟩)
              ·skip
               refine goes_ Try.func66 (by kernel_rfl) rfl #[.pointer (some ⟨g, 0, none⟩), .int .i64 3] (by rfl) rfl rfl (by (try simp only [List.map_toArray, List.map_cons, List.map_nil]); first | done | rfl | (simp only [List.length_drop, List.length_take]; rfl)) ?_
               with_reducible refine (spec_l00Src_next.calls g s0_0 t258 t259 3 t263 t264 t265 w0 _ ?side1 ?side2 A53.out).mono ?_
               (case side1 => repeat (first | (with_reducible first | exact HI0.out | apply IsS90.alloc | apply IsS90.drewN | apply IsS90.drew | apply IsS90.set_1 | apply IsS90.set_2 | refine IsS90.far ?_ NB0_214.out _ | refine IsS90.far ?_ NB0_215.out _ | refine IsS90.far ?_ NB0_235.out _ | refine IsS90.far ?_ NB0_236.out _) | exact HI0.out))
               (case side2 => repeat (first | (with_reducible first | exact HB.out | apply zR | apply zP | apply zQ | refine zS ?_ (IsS90.ge HI0.out) | refine zS ?_ GE214.out | refine zS ?_ GE215.out | refine zS ?_ GE235.out | refine zS ?_ GE236.out) | exact HB.out))
               rintro e w61 ⟨rfl, hi, hb, hk⟩
               refine ⟨_, rfl, ?_⟩
               have n0_ := zA (Kd.Q_mono (Kd.Q_keep (IsS90.apartQ (show IsS90 w0 _ g s0_0 t258 t259 from by repeat (first | (with_reducible first | exact HI0.out | apply IsS90.alloc | apply IsS90.drewN | apply IsS90.drew | apply IsS90.set_1 | apply IsS90.set_2 | refine IsS90.far ?_ NB0_214.out _ | refine IsS90.far ?_ NB0_215.out _ | refine IsS90.far ?_ NB0_235.out _ | refine IsS90.far ?_ NB0_236.out _) | exact HI0.out)) (by (with_reducible repeat (first | apply Kd.Q_alloc | apply Kd.Q_drewN | apply Kd.Q_drew)); exact HO_236002.out) (by decide)) hk (fun _ h => h.2)) (fun _ h => h.1))
               have n1_ := zA (Kd.Q_mono (Kd.Q_keep (IsS90.apartQ (show IsS90 w0 _ g s0_0 t258 t259 from by repeat (first | (with_reducible first | exact HI0.out | apply IsS90.alloc | apply IsS90.drewN | apply IsS90.drew | apply IsS90.set_1 | apply IsS90.set_2 | refine IsS90.far ?_ NB0_214.out _ | refine IsS90.far ?_ NB0_215.out _ | refine IsS90.far ?_ NB0_235.out _ | refine IsS90.far ?_ NB0_236.out _) | exact HI0.out)) (by (with_reducible repeat (first | apply Kd.Q_alloc | apply Kd.Q_drewN | apply Kd.Q_drew)); exact HO_237002.out) (by decide)) hk (fun _ h => h.2)) (fun _ h => h.1))
               have n2_ := zA (KeepBut.blk hk (g' := gb214) (o := .cells #[.int .i64 0, .int .i64 0, .slice none 0 0] 26 (0, 0)) (bA_ BK214) NB214_0.out (by simp))
               have n3_ := zA (KeepBut.blk hk (g' := gb215) (o := .cells #[.int .i64 0, .int .i64 0, .slice none 0 0] 26 (0, 0)) (bA_ BK215) NB215_0.out (by simp))
               have n4_ := zA (KeepBut.blk hk (g' := gb235) (o := .cells #[.int .i64 t228, .int .i64 t229, .slice Ao19 t230.length co19] 26 (0, 0)) (bA_ BK235) NB235_0.out (by simp))
               have n5_ := zA (KeepBut.blk hk (g' := gb236) (o := .cells #[.int .i64 (wrap64 (1 + t219)), .int .i64 (wrap64 (1 + t225)), u237002] 26 (0, 0)) (bA_ BK236) NB236_0.out (by simp))
               have n6_ := zA (KeepBut.trans (by repeat (first | (with_reducible first | exact HK.out | apply KeepBut.set_ | apply keep_drewN | apply keep_drew | apply keep_alloc | refine keep_far ?_ GW214.out _ | refine keep_far ?_ GW215.out _ | refine keep_far ?_ GW235.out _ | refine keep_far ?_ GW236.out _) | exact HK.out)) hk (.inl rfl))
               have n7_ := zA (hb)
               have n8_ := zA (hi)
               clear HO_236002
               clear HO_237002
               clear BK214
               clear BK215
               clear BK235
               clear BK236
               clear HK
               clear HB
               clear HI0
               have HO_236002 := n0_
               have HO_237002 := n1_
               have BK214 := n2_
               have BK215 := n3_
               have BK235 := n4_
               have BK236 := n5_
               have HK := n6_
               have HB := n7_
               have HI0 := n8_
               clear n0_ n1_ n2_ n3_ n4_ n5_ n6_ n7_ n8_
               (try clear hb)
               (try clear hb2)
               (try clear hk)
               (try clear hi)
               refine hK.out _ _ ⟨(blk_cell BK235.out 0).trans rfl, (blk_cell BK235.out 1).trans rfl, (blk_cell BK235.out 2).trans rfl⟩ (fun hHeld => ?_)
               clear hK K
               refine norm_ (a' := ?_) ?_ ?_
               rotate_left
               ·show Act.put _ (some 73) _ = _
                simp only [Act.put, zB, zC, zD, i64_w, i32_w]
                rfl
               refine one_ (i := 7) (N := some 71) #[true, true, true, true, true, true, true, true, true, true, false, false, false, false] rfl rfl (one_of HT_.out (by kernel_rfl)) (by decide) (fun K hK => ?_)
               refine Kd.R_lit_step (Kd.int .i64) _ 3 ?hg (N := 71) ?hd (xs := ([24, 25, (-1)] : List Int)) (inner := [.int .i64 24, .int .i64 25, .int .i64 (-1)]) (ok := fun _ => True) (okp := fun _ => True) ?hr ?hp (fun _ hk => hk) trivial (Below.refl _ _) (Nat.le_refl _) (by simp) ?_; (case hd => rfl); (case hg => rfl); (case hr => first | (go_simp; done) | (go_simp; rfl)); (case hp => exact (Reps.one (show Kd.M (Kd.int .i64) _ _ _ 24 [.int .i64 24] from rfl) (Reps.one (show Kd.M (Kd.int .i64) _ _ _ 25 [.int .i64 25] from rfl) (Reps.one (show Kd.M (Kd.int .i64) _ _ _ (-1) [.int .i64 (-1)] from rfl) (Reps.none _ _)))))
               intro v261 w62 ho63 hb hg_ hnew_
               clear hg_ hnew_
               (first | rw [← Ny260.out] at ho63 | (simp only [Int.reduceToNat] at ho63; rw [← Ny260.out] at ho63))
               have n0_ := zA (Kd.Q_elder' (by (with_reducible repeat (first | apply Kd.Q_alloc | apply Kd.Q_drewN | apply Kd.Q_drew)); exact HO_236002.out) (Kd.R_base ho63) hb)
               have n1_ := zA (Kd.Q_elder' (by (with_reducible repeat (first | apply Kd.Q_alloc | apply Kd.Q_drewN | apply Kd.Q_drew)); exact HO_237002.out) (Kd.R_base ho63) hb)
               have n2_ := zA (Kd.R_lower (Kd.R_new' (Kd.R_new' ho63 (Kd.Q_lt (by (with_reducible repeat (first | apply Kd.Q_alloc | apply Kd.Q_drewN | apply Kd.Q_drew)); exact HO_236002.out))) (Kd.Q_lt (by (with_reducible repeat (first | apply Kd.Q_alloc | apply Kd.Q_drewN | apply Kd.Q_drew)); exact HO_237002.out))) (keep_size (w := w) (g := g) (row := none) (by repeat (first | (with_reducible first | exact HK.out | apply KeepBut.set_ | apply keep_drewN | apply keep_drew | apply keep_alloc | refine keep_far ?_ GW214.out _ | refine keep_far ?_ GW215.out _ | refine keep_far ?_ GW235.out _ | refine keep_far ?_ GW236.out _) | exact HK.out))))
               have n3_ := zA (zU (g := gb214) (o := .cells #[.int .i64 0, .int .i64 0, .slice none 0 0] 26 (0, 0)) (bA_ BK214) hb)
               have n4_ := zA (zU (g := gb215) (o := .cells #[.int .i64 0, .int .i64 0, .slice none 0 0] 26 (0, 0)) (bA_ BK215) hb)
               have n5_ := zA (zU (g := gb235) (o := .cells #[.int .i64 t228, .int .i64 t229, .slice Ao19 t230.length co19] 26 (0, 0)) (bA_ BK235) hb)
               have n6_ := zA (zU (g := gb236) (o := .cells #[.int .i64 (wrap64 (1 + t219)), .int .i64 (wrap64 (1 + t225)), u237002] 26 (0, 0)) (bA_ BK236) hb)
               have n7_ := zA (IsS90.below (by repeat (first | (with_reducible first | exact HI0.out | apply IsS90.alloc | apply IsS90.drewN | apply IsS90.drew | apply IsS90.set_1 | apply IsS90.set_2 | refine IsS90.far ?_ NB0_214.out _ | refine IsS90.far ?_ NB0_215.out _ | refine IsS90.far ?_ NB0_235.out _ | refine IsS90.far ?_ NB0_236.out _) | exact HI0.out)) hb)
               have n8_ := zA (KeepBut.trans (by repeat (first | (with_reducible first | exact HK.out | apply KeepBut.set_ | apply keep_drewN | apply keep_drew | apply keep_alloc | refine keep_far ?_ GW214.out _ | refine keep_far ?_ GW215.out _ | refine keep_far ?_ GW235.out _ | refine keep_far ?_ GW236.out _) | exact HK.out)) (KeepBut.of_below hb g none) (.inl rfl))
               have n9_ := zA (below_step (by repeat (first | (with_reducible first | exact HB.out | apply zR | apply zP | apply zQ | refine zS ?_ (IsS90.ge HI0.out) | refine zS ?_ GE214.out | refine zS ?_ GE215.out | refine zS ?_ GE235.out | refine zS ?_ GE236.out) | exact HB.out)) hb)
               clear HO_236002
               clear HO_237002
               clear BK214
               clear BK215
               clear BK235
               clear BK236
               clear HI0
               clear HK
               clear HB
               have HO_236002 := n0_
               have HO_237002 := n1_
               have HO262 := n2_
               have BK214 := n3_
               have BK215 := n4_
               have BK235 := n5_
               have BK236 := n6_
               have HI0 := n7_
               have HK := n8_
               have HB := n9_
               clear n0_ n1_ n2_ n3_ n4_ n5_ n6_ n7_ n8_ n9_
               clear hb ho63
               obtain ⟨Ao64, co64, eo64⟩ := Kd.R_slice HO262.out
               subst eo64
               obtain ⟨ado64, fo64, _⟩ := Kd.at_int (zK HO262.out).2.2 0 (by decide) (by rw [Ny260.out]; simp)
               cases fo64
               refine hK.out _ _ ⟨(blk_cell BK235.out 0).trans rfl, (blk_cell BK235.out 1).trans rfl, (blk_cell BK235.out 2).trans rfl⟩ (fun hHeld => ?_)
               clear hK K
               refine norm_ (a' := ?_) ?_ ?_
               rotate_left
               ·show Act.put _ (some 71) _ = _
                simp only [Act.put, zB, zC, zD, i64_w, i32_w]
                rfl
               exact norm_ (by simp only [putAll, Act.put, zB, zC, zD]) (hCont (.slice (some ado64) y260.length co64, ado64) _ ⟨hHeld, (by (with_reducible repeat (first | apply zF | apply zE | apply zG)); exact Kd.R_mono HO262.out (fun _ hk => ⟨hk.1.2, hk.2⟩)), (by (with_reducible repeat (first | apply Kd.Q_alloc | apply Kd.Q_drewN | apply Kd.Q_drew)); exact Kd.Q_mono HO_236002.out (fun _ hk => ⟨hk.2, hk.1⟩)), (by (with_reducible repeat (first | apply Kd.Q_alloc | apply Kd.Q_drewN | apply Kd.Q_drew)); exact Kd.Q_mono HO_237002.out (fun _ hk => ⟨hk.2, hk.1⟩)), ⟨_, rfl⟩, (bA_ BK214), (bA_ BK215), (bA_ BK235), (bA_ BK236), (by repeat (first | (with_reducible first | exact HI0.out | apply IsS90.alloc | apply IsS90.drewN | apply IsS90.drew | apply IsS90.set_1 | apply IsS90.set_2 | refine IsS90.far ?_ NB0_214.out _ | refine IsS90.far ?_ NB0_215.out _ | refine IsS90.far ?_ NB0_235.out _ | refine IsS90.far ?_ NB0_236.out _) | exact HI0.out)), (by repeat (first | (with_reducible first | exact HK.out | apply KeepBut.set_ | apply keep_drewN | apply keep_drew | apply keep_alloc | refine keep_far ?_ GW214.out _ | refine keep_far ?_ GW215.out _ | refine keep_far ?_ GW235.out _ | refine keep_far ?_ GW236.out _) | exact HK.out)), (by repeat (first | (with_reducible first | exact HB.out | apply zR | apply zP | apply zQ | refine zS ?_ (IsS90.ge HI0.out) | refine zS ?_ GE214.out | refine zS ?_ GE215.out | refine zS ?_ GE235.out | refine zS ?_ GE236.out) | exact HB.out))⟩)
             ·skip
              refine Kd.R_lit_step (Kd.int .i64) _ 3 ?hg (N := 71) ?hd (xs := ([24, 25, (-1)] : List Int)) (inner := [.int .i64 24, .int .i64 25, .int .i64 (-1)]) (ok := fun _ => True) (okp := fun _ => True) ?hr ?hp (fun _ hk => hk) trivial (Below.refl _ _) (Nat.le_refl _) (by simp) ?_; (case hd => rfl); (case hg => rfl); (case hr => first | (go_simp; done) | (go_simp; rfl)); (case hp => exact (Reps.one (show Kd.M (Kd.int .i64) _ _ _ 24 [.int .i64 24] from rfl) (Reps.one (show Kd.M (Kd.int .i64) _ _ _ 25 [.int .i64 25] from rfl) (Reps.one (show Kd.M (Kd.int .i64) _ _ _ (-1) [.int .i64 (-1)] from rfl) (Reps.none _ _)))))
              intro v261 w60 ho61 hb hg_ hnew_
              clear hg_ hnew_
              (first | rw [← Ny260.out] at ho61 | (simp only [Int.reduceToNat] at ho61; rw [← Ny260.out] at ho61))
              have n0_ := zA (Kd.Q_elder' (by (with_reducible repeat (first | apply Kd.Q_alloc | apply Kd.Q_drewN | apply Kd.Q_drew)); exact HO_236002.out) (Kd.R_base ho61) hb)
              have n1_ := zA (Kd.Q_elder' (by (with_reducible repeat (first | apply Kd.Q_alloc | apply Kd.Q_drewN | apply Kd.Q_drew)); exact HO_237002.out) (Kd.R_base ho61) hb)
              have n2_ := zA (Kd.R_lower (Kd.R_new' (Kd.R_new' ho61 (Kd.Q_lt (by (with_reducible repeat (first | apply Kd.Q_alloc | apply Kd.Q_drewN | apply Kd.Q_drew)); exact HO_236002.out))) (Kd.Q_lt (by (with_reducible repeat (first | apply Kd.Q_alloc | apply Kd.Q_drewN | apply Kd.Q_drew)); exact HO_237002.out))) (keep_size (w := w) (g := g) (row := none) (by repeat (first | (with_reducible first | exact HK.out | apply KeepBut.set_ | apply keep_drewN | apply keep_drew | apply keep_alloc | refine keep_far ?_ GW214.out _ | refine keep_far ?_ GW215.out _ | refine keep_far ?_ GW235.out _ | refine keep_far ?_ GW236.out _) | exact HK.out))))
              have n3_ := zA (zU (g := gb214) (o := .cells #[.int .i64 0, .int .i64 0, .slice none 0 0] 26 (0, 0)) (bA_ BK214) hb)
              have n4_ := zA (zU (g := gb215) (o := .cells #[.int .i64 0, .int .i64 0, .slice none 0 0] 26 (0, 0)) (bA_ BK215) hb)
              have n5_ := zA (zU (g := gb235) (o := .cells #[.int .i64 t228, .int .i64 t229, .slice Ao19 t230.length co19] 26 (0, 0)) (bA_ BK235) hb)
              have n6_ := zA (zU (g := gb236) (o := .cells #[.int .i64 (wrap64 (1 + t219)), .int .i64 (wrap64 (1 + t225)), u237002] 26 (0, 0)) (bA_ BK236) hb)
              have n7_ := zA (IsS90.below (by repeat (first | (with_reducible first | exact HI0.out | apply IsS90.alloc | apply IsS90.drewN | apply IsS90.drew | apply IsS90.set_1 | apply IsS90.set_2 | refine IsS90.far ?_ NB0_214.out _ | refine IsS90.far ?_ NB0_215.out _ | refine IsS90.far ?_ NB0_235.out _ | refine IsS90.far ?_ NB0_236.out _) | exact HI0.out)) hb)
              have n8_ := zA (KeepBut.trans (by repeat (first | (with_reducible first | exact HK.out | apply KeepBut.set_ | apply keep_drewN | apply keep_drew | apply keep_alloc | refine keep_far ?_ GW214.out _ | refine keep_far ?_ GW215.out _ | refine keep_far ?_ GW235.out _ | refine keep_far ?_ GW236.out _) | exact HK.out)) (KeepBut.of_below hb g none) (.inl rfl))
              have n9_ := zA (below_step (by repeat (first | (with_reducible first | exact HB.out | apply zR | apply zP | apply zQ | refine zS ?_ (IsS90.ge HI0.out) | refine zS ?_ GE214.out | refine zS ?_ GE215.out | refine zS ?_ GE235.out | refine zS ?_ GE236.out) | exact HB.out)) hb)
              clear HO_236002
              clear HO_237002
              clear BK214
              clear BK215
              clear BK235
              clear BK236
              clear HI0
              clear HK
              clear HB
              have HO_236002 := n0_
              have HO_237002 := n1_
              have HO262 := n2_
              have BK214 := n3_
              have BK215 := n4_
              have BK235 := n5_
              have BK236 := n6_
              have HI0 := n7_
              have HK := n8_
              have HB := n9_
              clear n0_ n1_ n2_ n3_ n4_ n5_ n6_ n7_ n8_ n9_
              clear hb ho61
              obtain ⟨Ao62, co62, eo62⟩ := Kd.R_slice HO262.out
              subst eo62
              obtain ⟨ado62, fo62, _⟩ := Kd.at_int (zK HO262.out).2.2 0 (by decide) (by rw [Ny260.out]; simp)
              cases fo62
              refine hK.out _ _ ⟨(blk_cell BK235.out 0).trans rfl, (blk_cell BK235.out 1).trans rfl, (blk_cell BK235.out 2).trans rfl⟩ (fun hHeld => ?_)
              clear hK K
              refine norm_ (a' := ?_) ?_ ?_
              rotate_left
              ·show Act.put _ (some 71) _ = _
               simp only [Act.put, zB, zC, zD, i64_w, i32_w]
               rfl
              refine one_ (i := 6) (N := some 70) #[true, true, true, true, true, true, true, true, true, false, false, false, false, false] rfl rfl (one_of HT_.out (by kernel_rfl)) (by decide) (fun K hK => ?_)
              refine goes_ Try.func66 (by kernel_rfl) rfl #[.pointer (some ⟨g, 0, none⟩), .int .i64 (t230.length : Int)] (by rfl) rfl rfl (by (try simp only [List.map_toArray, List.map_cons, List.map_nil]); first | done | rfl | (simp only [List.length_drop, List.length_take]; rfl)) ?_
              with_reducible refine (spec_l00Src_next.calls g s0_0 t248 t249 (t230.length : Int) t257 t258 t259 w0 _ ?side1 ?side2 A52.out).mono ?_
              (case side1 => repeat (first | (with_reducible first | exact HI0.out | apply IsS90.alloc | apply IsS90.drewN | apply IsS90.drew | apply IsS90.set_1 | apply IsS90.set_2 | refine IsS90.far ?_ NB0_214.out _ | refine IsS90.far ?_ NB0_215.out _ | refine IsS90.far ?_ NB0_235.out _ | refine IsS90.far ?_ NB0_236.out _) | exact HI0.out))
              (case side2 => repeat (first | (with_reducible first | exact HB.out | apply zR | apply zP | apply zQ | refine zS ?_ (IsS90.ge HI0.out) | refine zS ?_ GE214.out | refine zS ?_ GE215.out | refine zS ?_ GE235.out | refine zS ?_ GE236.out) | exact HB.out))
              rintro e w63 ⟨rfl, hi, hb, hk⟩
              refine ⟨_, rfl, ?_⟩
              have n0_ := zA (Kd.Q_mono (Kd.Q_keep (IsS90.apartQ (show IsS90 w0 _ g s0_0 t248 t249 from by repeat (first | (with_reducible first | exact HI0.out | apply IsS90.alloc | apply IsS90.drewN | apply IsS90.drew | apply IsS90.set_1 | apply IsS90.set_2 | refine IsS90.far ?_ NB0_214.out _ | refine IsS90.far ?_ NB0_215.out _ | refine IsS90.far ?_ NB0_235.out _ | refine IsS90.far ?_ NB0_236.out _) | exact HI0.out)) (by (with_reducible repeat (first | apply Kd.Q_alloc | apply Kd.Q_drewN | apply Kd.Q_drew)); exact HO_236002.out) (by decide)) hk (fun _ h => h.2)) (fun _ h => h.1))
              have n1_ := zA (Kd.Q_mono (Kd.Q_keep (IsS90.apartQ (show IsS90 w0 _ g s0_0 t248 t249 from by repeat (first | (with_reducible first | exact HI0.out | apply IsS90.alloc | apply IsS90.drewN | apply IsS90.drew | apply IsS90.set_1 | apply IsS90.set_2 | refine IsS90.far ?_ NB0_214.out _ | refine IsS90.far ?_ NB0_215.out _ | refine IsS90.far ?_ NB0_235.out _ | refine IsS90.far ?_ NB0_236.out _) | exact HI0.out)) (by (with_reducible repeat (first | apply Kd.Q_alloc | apply Kd.Q_drewN | apply Kd.Q_drew)); exact HO_237002.out) (by decide)) hk (fun _ h => h.2)) (fun _ h => h.1))
              have n2_ := zA (KeepBut.blk hk (g' := gb214) (o := .cells #[.int .i64 0, .int .i64 0, .slice none 0 0] 26 (0, 0)) (bA_ BK214) NB214_0.out (by simp))
              have n3_ := zA (KeepBut.blk hk (g' := gb215) (o := .cells #[.int .i64 0, .int .i64 0, .slice none 0 0] 26 (0, 0)) (bA_ BK215) NB215_0.out (by simp))
              have n4_ := zA (KeepBut.blk hk (g' := gb235) (o := .cells #[.int .i64 t228, .int .i64 t229, .slice Ao19 t230.length co19] 26 (0, 0)) (bA_ BK235) NB235_0.out (by simp))
              have n5_ := zA (KeepBut.blk hk (g' := gb236) (o := .cells #[.int .i64 (wrap64 (1 + t219)), .int .i64 (wrap64 (1 + t225)), u237002] 26 (0, 0)) (bA_ BK236) NB236_0.out (by simp))
              have n6_ := zA (Kd.R_mono (Kd.R_keep (IsS90.apart (show IsS90 w0 _ g s0_0 t248 t249 from by repeat (first | (with_reducible first | exact HI0.out | apply IsS90.alloc | apply IsS90.drewN | apply IsS90.drew | apply IsS90.set_1 | apply IsS90.set_2 | refine IsS90.far ?_ NB0_214.out _ | refine IsS90.far ?_ NB0_215.out _ | refine IsS90.far ?_ NB0_235.out _ | refine IsS90.far ?_ NB0_236.out _) | exact HI0.out)) (bC_ HO262) (by decide)) hk (fun _ h => h.2)) (fun _ h => h.1))
              have n7_ := zA (KeepBut.trans (by repeat (first | (with_reducible first | exact HK.out | apply KeepBut.set_ | apply keep_drewN | apply keep_drew | apply keep_alloc | refine keep_far ?_ GW214.out _ | refine keep_far ?_ GW215.out _ | refine keep_far ?_ GW235.out _ | refine keep_far ?_ GW236.out _) | exact HK.out)) hk (.inl rfl))
              have n8_ := zA (hb)
              have n9_ := zA (hi)
              clear HO_236002
              clear HO_237002
              clear BK214
              clear BK215
              clear BK235
              clear BK236
              clear HO262
              clear HK
              clear HB
              clear HI0
              have HO_236002 := n0_
              have HO_237002 := n1_
              have BK214 := n2_
              have BK215 := n3_
              have BK235 := n4_
              have BK236 := n5_
              have HO262 := n6_
              have HK := n7_
              have HB := n8_
              have HI0 := n9_
              clear n0_ n1_ n2_ n3_ n4_ n5_ n6_ n7_ n8_ n9_
              (try clear hb)
              (try clear hb2)
              (try clear hk)
              (try clear hi)
              refine hK.out _ _ ⟨(blk_cell BK235.out 0).trans rfl, (blk_cell BK235.out 1).trans rfl, (blk_cell BK235.out 2).trans rfl⟩ (fun hHeld => ?_)
              clear hK K
              refine norm_ (a' := ?_) ?_ ?_
              rotate_left
              ·show Act.put _ (some 70) _ = _
               simp only [Act.put, zB, zC, zD, i64_w, i32_w]
               rfl
              refine one_ (i := 9) (N := some 73) #[true, true, true, true, true, true, true, true, true, true, false, false, false, false] rfl rfl (one_of HT_.out (by kernel_rfl)) (by decide) (fun K hK => ?_)
              refine goes_ Try.func66 (by kernel_rfl) rfl #[.pointer (some ⟨g, 0, none⟩), .int .i64 3] (by rfl) rfl rfl (by (try simp only [List.map_toArray, List.map_cons, List.map_nil]); first | done | rfl | (simp only [List.length_drop, List.length_take]; rfl)) ?_
              with_reducible refine (spec_l00Src_next.calls g s0_0 t258 t259 3 t263 t264 t265 w0 _ ?side1 ?side2 A53.out).mono ?_
              (case side1 => repeat (first | (with_reducible first | exact HI0.out | apply IsS90.alloc | apply IsS90.drewN | apply IsS90.drew | apply IsS90.set_1 | apply IsS90.set_2 | refine IsS90.far ?_ NB0_214.out _ | refine IsS90.far ?_ NB0_215.out _ | refine IsS90.far ?_ NB0_235.out _ | refine IsS90.far ?_ NB0_236.out _) | exact HI0.out))
              (case side2 => repeat (first | (with_reducible first | exact HB.out | apply zR | apply zP | apply zQ | refine zS ?_ (IsS90.ge HI0.out) | refine zS ?_ GE214.out | refine zS ?_ GE215.out | refine zS ?_ GE235.out | refine zS ?_ GE236.out) | exact HB.out))
              rintro e w64 ⟨rfl, hi, hb, hk⟩
              refine ⟨_, rfl, ?_⟩
              have n0_ := zA (Kd.Q_mono (Kd.Q_keep (IsS90.apartQ (show IsS90 w0 _ g s0_0 t258 t259 from by repeat (first | (with_reducible first | exact HI0.out | apply IsS90.alloc | apply IsS90.drewN | apply IsS90.drew | apply IsS90.set_1 | apply IsS90.set_2 | refine IsS90.far ?_ NB0_214.out _ | refine IsS90.far ?_ NB0_215.out _ | refine IsS90.far ?_ NB0_235.out _ | refine IsS90.far ?_ NB0_236.out _) | exact HI0.out)) (by (with_reducible repeat (first | apply Kd.Q_alloc | apply Kd.Q_drewN | apply Kd.Q_drew)); exact HO_236002.out) (by decide)) hk (fun _ h => h.2)) (fun _ h => h.1))
              have n1_ := zA (Kd.Q_mono (Kd.Q_keep (IsS90.apartQ (show IsS90 w0 _ g s0_0 t258 t259 from by repeat (first | (with_reducible first | exact HI0.out | apply IsS90.alloc | apply IsS90.drewN | apply IsS90.drew | apply IsS90.set_1 | apply IsS90.set_2 | refine IsS90.far ?_ NB0_214.out _ | refine IsS90.far ?_ NB0_215.out _ | refine IsS90.far ?_ NB0_235.out _ | refine IsS90.far ?_ NB0_236.out _) | exact HI0.out)) (by (with_reducible repeat (first | apply Kd.Q_alloc | apply Kd.Q_drewN | apply Kd.Q_drew)); exact HO_237002.out) (by decide)) hk (fun _ h => h.2)) (fun _ h => h.1))
              have n2_ := zA (KeepBut.blk hk (g' := gb214) (o := .cells #[.int .i64 0, .int .i64 0, .slice none 0 0] 26 (0, 0)) (bA_ BK214) NB214_0.out (by simp))
              have n3_ := zA (KeepBut.blk hk (g' := gb215) (o := .cells #[.int .i64 0, .int .i64 0, .slice none 0 0] 26 (0, 0)) (bA_ BK215) NB215_0.out (by simp))
              have n4_ := zA (KeepBut.blk hk (g' := gb235) (o := .cells #[.int .i64 t228, .int .i64 t229, .slice Ao19 t230.length co19] 26 (0, 0)) (bA_ BK235) NB235_0.out (by simp))
              have n5_ := zA (KeepBut.blk hk (g' := gb236) (o := .cells #[.int .i64 (wrap64 (1 + t219)), .int .i64 (wrap64 (1 + t225)), u237002] 26 (0, 0)) (bA_ BK236) NB236_0.out (by simp))
              have n6_ := zA (Kd.R_mono (Kd.R_keep (IsS90.apart (show IsS90 w0 _ g s0_0 t258 t259 from by repeat (first | (with_reducible first | exact HI0.out | apply IsS90.alloc | apply IsS90.drewN | apply IsS90.drew | apply IsS90.set_1 | apply IsS90.set_2 | refine IsS90.far ?_ NB0_214.out _ | refine IsS90.far ?_ NB0_215.out _ | refine IsS90.far ?_ NB0_235.out _ | refine IsS90.far ?_ NB0_236.out _) | exact HI0.out)) (bC_ HO262) (by decide)) hk (fun _ h => h.2)) (fun _ h => h.1))
              have n7_ := zA (KeepBut.trans (by repeat (first | (with_reducible first | exact HK.out | apply KeepBut.set_ | apply keep_drewN | apply keep_drew | apply keep_alloc | refine keep_far ?_ GW214.out _ | refine keep_far ?_ GW215.out _ | refine keep_far ?_ GW235.out _ | refine keep_far ?_ GW236.out _) | exact HK.out)) hk (.inl rfl))
              have n8_ := zA (hb)
              have n9_ := zA (hi)
              clear HO_236002
              clear HO_237002
              clear BK214
              clear BK215
              clear BK235
              clear BK236
              clear HO262
              clear HK
              clear HB
              clear HI0
              have HO_236002 := n0_
              have HO_237002 := n1_
              have BK214 := n2_
              have BK215 := n3_
              have BK235 := n4_
              have BK236 := n5_
              have HO262 := n6_
              have HK := n7_
              have HB := n8_
              have HI0 := n9_
              clear n0_ n1_ n2_ n3_ n4_ n5_ n6_ n7_ n8_ n9_
              (try clear hb)
              (try clear hb2)
              (try clear hk)
              (try clear hi)
              refine hK.out _ _ ⟨(blk_cell BK235.out 0).trans rfl, (blk_cell BK235.out 1).trans rfl, (blk_cell BK235.out 2).trans rfl⟩ (fun hHeld => ?_)
              clear hK K
              refine norm_ (a' := ?_) ?_ ?_
              rotate_left
              ·show Act.put _ (some 73) _ = _
               simp only [Act.put, zB, zC, zD, i64_w, i32_w]
               rfl
              exact norm_ (by simp only [putAll, Act.put, zB, zC, zD]) (hCont (.slice (some ado62) y260.length co62, ado62) _ ⟨hHeld, (by (with_reducible repeat (first | apply zF | apply zE | apply zG)); exact Kd.R_mono HO262.out (fun _ hk => ⟨hk.1.2, hk.2⟩)), (by (with_reducible repeat (first | apply Kd.Q_alloc | apply Kd.Q_drewN | apply Kd.Q_drew)); exact Kd.Q_mono HO_236002.out (fun _ hk => ⟨hk.2, hk.1⟩)), (by (with_reducible repeat (first | apply Kd.Q_alloc | apply Kd.Q_drewN | apply Kd.Q_drew)); exact Kd.Q_mono HO_237002.out (fun _ hk => ⟨hk.2, hk.1⟩)), ⟨_, rfl⟩, (bA_ BK214), (bA_ BK215), (bA_ BK235), (bA_ BK236), (by repeat (first | (with_reducible first | exact HI0.out | apply IsS90.alloc | apply IsS90.drewN | apply IsS90.drew | apply IsS90.set_1 | apply IsS90.set_2 | refine IsS90.far ?_ NB0_214.out _ | refine IsS90.far ?_ NB0_215.out _ | refine IsS90.far ?_ NB0_235.out _ | refine IsS90.far ?_ NB0_236.out _) | exact HI0.out)), (by repeat (first | (with_reducible first | exact HK.out | apply KeepBut.set_ | apply keep_drewN | apply keep_drew | apply keep_alloc | refine keep_far ?_ GW214.out _ | refine keep_far ?_ GW215.out _ | refine keep_far ?_ GW235.out _ | refine keep_far ?_ GW236.out _) | exact HK.out)), (by repeat (first | (with_reducible first | exact HB.out | apply zR | apply zP | apply zQ | refine zS ?_ (IsS90.ge HI0.out) | refine zS ?_ GE214.out | refine zS ?_ GE215.out | refine zS ?_ GE235.out | refine zS ?_ GE236.out) | exact HB.out))⟩)
            rintro ⟨v261, adz_v261⟩ w65 ⟨hS_, h0_, h1_, h2_, h3_, h4_, h5_, h6_, h7_, h8_, h9_, h10_⟩
            have n0_ : Aside0 (Kd.R (Kd.int .i64) 3 w65 w.heap.size (fun k_ => some k_ ≠ (.slice Ao19 t230.length co19 : Value).ownBlock ∧ some k_ ≠ (u237002 : Value).ownBlock) v261 y260) := ⟨h0_⟩
            have n1_ : Aside0 (Kd.Q (Kd.int .i64) 3 w65 w.heap.size (fun k_ => some k_ ≠ (v261 : Value).ownBlock ∧ some k_ ≠ (u237002 : Value).ownBlock) (.slice Ao19 t230.length co19) t230) := ⟨h1_⟩
            have n2_ : Aside0 (Kd.Q (Kd.int .i64) 3 w65 w.heap.size (fun k_ => some k_ ≠ (v261 : Value).ownBlock ∧ some k_ ≠ (.slice Ao19 t230.length co19 : Value).ownBlock) u237002 x237002_1) := ⟨h2_⟩
            have n3_ : Aside0 (∃ c_, (v261 : Value) = .slice (some adz_v261) y260.length c_) := ⟨h3_⟩
            have n4_ : Aside0 (w65.heap[gb214]? = some (.cells #[.int .i64 0, .int .i64 0, .slice none 0 0] 26 (0, 0))) := ⟨h4_⟩
            have n5_ : Aside0 (w65.heap[gb215]? = some (.cells #[.int .i64 0, .int .i64 0, .slice none 0 0] 26 (0, 0))) := ⟨h5_⟩
            have n6_ : Aside0 (w65.heap[gb235]? = some (.cells #[.int .i64 t228, .int .i64 t229, .slice Ao19 t230.length co19] 26 (0, 0))) := ⟨h6_⟩
            have n7_ : Aside0 (w65.heap[gb236]? = some (.cells #[.int .i64 (wrap64 (1 + t219)), .int .i64 (wrap64 (1 + t225)), u237002] 26 (0, 0))) := ⟨h7_⟩
            have n8_ : Aside0 (IsS90 w0 w65 g s0_0 t264 t265) := ⟨h8_⟩
            have n9_ : Aside0 (KeepBut w w65 g none) := ⟨h9_⟩
            have n10_ : Aside0 (Below w0.heap.size w0 w65) := ⟨h10_⟩
            clear HO_236002
            clear HO_237002
            clear BK214
            clear BK215
            clear BK235
            clear BK236
            clear HI0
            clear HK
            clear HB
            clear h0_ h1_ h2_ h3_ h4_ h5_ h6_ h7_ h8_ h9_ h10_
            have HO262 := n0_
            have HO_236002 := n1_
            have HO_237002 := n2_
            have HA_HO262 := n3_
            have BK214 := n4_
            have BK215 := n5_
            have BK235 := n6_
            have BK236 := n7_
            have HI0 := n8_
            have HK := n9_
            have HB := n10_
            clear n0_ n1_ n2_ n3_ n4_ n5_ n6_ n7_ n8_ n9_ n10_
            have hHeld : w65.cell? ⟨gb235, 0, none⟩ = some (.int .i64 t228) ∧ w65.cell? ⟨gb235, 1, none⟩ = some (.int .i64 t229) ∧ w65.cell? ⟨gb235, 2, none⟩ = some (.slice Ao19 t230.length co19) := hS_
            obtain ⟨co66, eo66⟩ := HA_HO262.out
            clear HA_HO262
            subst eo66
            have p58 : 0 ≤ (t257 : Int) := of_decide_eq_true (by first | (with_reducible assumption) | assumption)
            have q58 : (t257 : Int) < ((t230.length : Int) : Int) := of_decide_eq_true (by first | (with_reducible assumption) | assumption)
            obtain ⟨go58, oo58, co58, eo58, gb58, gl58, cl58, HG58⟩ := Kd.Q_form HO_236002.out (by omega)
            (first | cases eo58 | (injection eo58 with ea_ en_ ec_; (first | subst ea_ | (injection ea_ with ea_; subst ea_)); subst ec_; clear en_))
            have GB58 := zA gb58
            have GG58 := zA HG58
            clear gb58 gl58 HG58
            obtain ⟨hx58_0, hf58_0⟩ := Kd.Q_cell 0 HO_236002.out (t257 : Int) p58 q58
            replace p58 := eq_true p58
            replace q58 := eq_true q58
            have HN0_go58 := zA (show g ≠ go58 from by have h_ := IsS90.own_neQ HI0.out HO_236002.out (by decide); intro e_; exact h_ (by rw [e_]; rfl))
            have HP67 := (Kd.Q_putg HO_236002.out (t257 : Int) (of_decide_eq_true (by first | (with_reducible assumption) | assumption)) (by have h_ : (t257 : Int) < ((t230.length : Int) : Int) := of_decide_eq_true (by first | (with_reducible assumption) | assumption); first | exact h_ | (have e_ := (Kd.Q_reads' HO_236002.out).1; omega) | simpa using h_) (rd y260 t263)).1
            rw [← Ny267.out] at HP67
            have HQ67 := zA HP67
            clear HP67
            refine norm_ (a' := ?_) ?_ ?_
            rotate_left
            ·simp only [putAll, Act.put, zB, zC, zD]
             rfl
            refine pure_ (i := 10) (N := some 74) (v := ?_) (a' := ?_) #[true, true, true, true, true, true, true, true, true, true, true, false, false, false] rfl rfl (any_of HT_.out (by kernel_rfl)) (fun _ _ _ h => h) (Or.inl ⟨by rfl, ?_⟩) ?_ ?_
            rotate_left
            ·intro w'
             go_simp
             with_reducible rfl
            rotate_left
            ·simp only [Act.put, zB, zC, zD, i64_w, i32_w]
             rfl
            refine one_ (i := 11) (N := some 75) #[true, true, true, true, true, true, true, true, true, true, true, true, false, false] rfl rfl (one_of HT_.out (by kernel_rfl)) (by decide) (fun K hK => ?_)
            (have p266 : 0 ≤ (t263 : Int) := of_decide_eq_true (by first | (with_reducible assumption) | assumption); have q266 : t263 < (y260.length : Int) := of_decide_eq_true (by first | (with_reducible assumption) | assumption); obtain ⟨ad266, e266, hx266_0⟩ := Kd.at_int (zK HO262.out).2.2 t263 p266 q266; obtain rfl : adz_v261 = ad266 := (by injection e266))
            refine value_ (w1 := ?_) (v := ?_) (by rfl) rfl ?_ ?_
            rotate_left 2
            ·go_simp
             constructor
             ·rfl
             ·rfl
            clear hx266_0
            refine hK.out _ _ ⟨(blk_cell BK235.out 0).trans rfl, (blk_cell BK235.out 1).trans rfl, (blk_cell BK235.out 2).trans rfl⟩ (fun hHeld => ?_)
            clear hK K
            refine norm_ (a' := ?_) ?_ ?_
            rotate_left
            ·show Act.put _ (some 75) _ = _
             simp only [Act.put, zB, zC, zD, i64_w, i32_w]
             rfl
            refine pure_ (i := 12) (N := some 76) (v := ?_) (a' := ?_) #[true, true, true, true, true, true, true, true, true, true, true, true, true, false] rfl rfl (any_of HT_.out (by kernel_rfl)) (fun _ _ _ h => h) (Or.inl ⟨by rfl, ?_⟩) ?_ ?_
            rotate_left
            ·intro w'
             go_simp
             with_reducible rfl
            rotate_left
            ·simp only [Act.put, zB, zC, zD, i64_w, i32_w]
             rfl
            refine last_ (i := 13) (N := none) #[true, true, true, true, true, true, true, true, true, true, true, true, true, true] rfl rfl (one_of HT_.out (by kernel_rfl)) (by decide) (fun K hK => ?_)
            refine skip_ (w1 := ?_) (by rfl) rfl ?_ ?_
            rotate_left
            ·go_simp
             rfl
            refine hK.out _ _ ?_
            clear hK K
            refine done_ (done_of HT_.out (by kernel_rfl)) ?_
            try go_wp2
            go_meet
            case rel => exact ⟨_, (t264), (t265), (t229), (y267), ((wrap64 (1 + t219))), (x237002_1), (.slice (some ⟨go58, oo58, none⟩) t230.length co19), (u237002), H', ⟨by have := HK1.out; first | omega | exact Nat.le_refl _⟩, ⟨by (with_reducible repeat (first | apply Kd.Q_alloc | apply Kd.Q_drewN | apply Kd.Q_drew)); exact Kd.Q_mono HQ67.out (fun _ hk => hk.2)⟩, ⟨by (with_reducible repeat (first | apply Kd.Q_alloc | apply Kd.Q_drewN | apply Kd.Q_drew)); exact Kd.Q_mono (Kd.Q_far (p := ⟨go58, oo58 + (t257 : Int).toNat, none⟩) (Kd.Q_mono HO_237002.out (fun k_ hk => (⟨hk, fun e_ => hk.2 (by rw [e_]; rfl)⟩ : _ ∧ k_ ≠ go58))) (fun _ hk => hk.2) (.int .i64 (rd y260 t263))) (fun _ hk => hk.1.2)⟩, ⟨by (with_reducible repeat (first | refine zM ?_ _ | refine zN ?_ | refine zO ?_ _)); refine blk_far ?_ (by have h_ := Kd.Q_ne HO_236002.out BK214.out (by decide); intro e_; exact h_ (by rw [e_]; rfl)) _; (with_reducible repeat (first | refine zM ?_ _ | refine zN ?_ | refine zO ?_ _)); exact BK214.out⟩, ⟨by (with_reducible repeat (first | refine zM ?_ _ | refine zN ?_ | refine zO ?_ _)); refine blk_far ?_ (by have h_ := Kd.Q_ne HO_236002.out BK215.out (by decide); intro e_; exact h_ (by rw [e_]; rfl)) _; (with_reducible repeat (first | refine zM ?_ _ | refine zN ?_ | refine zO ?_ _)); exact BK215.out⟩, ⟨by (with_reducible repeat (first | refine zM ?_ _ | refine zN ?_ | refine zO ?_ _)); refine blk_far ?_ (by have h_ := Kd.Q_ne HO_236002.out BK235.out (by decide); intro e_; exact h_ (by rw [e_]; rfl)) _; (with_reducible repeat (first | refine zM ?_ _ | refine zN ?_ | refine zO ?_ _)); exact BK235.out⟩, ⟨by (with_reducible repeat (first | refine zM ?_ _ | refine zN ?_ | refine zO ?_ _)); refine blk_far ?_ (by have h_ := Kd.Q_ne HO_236002.out BK236.out (by decide); intro e_; exact h_ (by rw [e_]; rfl)) _; (with_reducible repeat (first | refine zM ?_ _ | refine zN ?_ | refine zO ?_ _)); exact BK236.out⟩, ⟨by repeat (first | (with_reducible first | exact HI0.out | apply IsS90.alloc | apply IsS90.drewN | apply IsS90.drew | apply IsS90.set_1 | apply IsS90.set_2 | refine IsS90.far ?_ HN0_go58.out _ | refine IsS90.far ?_ NB0_214.out _ | refine IsS90.far ?_ NB0_215.out _ | refine IsS90.far ?_ NB0_235.out _ | refine IsS90.far ?_ NB0_236.out _) | exact HI0.out)⟩, ⟨by repeat (first | (with_reducible first | exact HK.out | apply KeepBut.set_ | apply keep_drewN | apply keep_drew | apply keep_alloc | refine keep_far ?_ GB58.out _ | refine keep_far ?_ GW214.out _ | refine keep_far ?_ GW215.out _ | refine keep_far ?_ GW235.out _ | refine keep_far ?_ GW236.out _) | exact HK.out)⟩, ⟨by repeat (first | (with_reducible first | exact HB.out | apply zR | apply zP | apply zQ | refine zS ?_ (Nat.le_trans HL.out GB58.out) | refine zS ?_ (IsS90.ge HI0.out) | refine zS ?_ GE214.out | refine zS ?_ GE215.out | refine zS ?_ GE235.out | refine zS ?_ GE236.out) | exact HB.out)⟩⟩
           ·rw [if_neg c57] at H
            exact absurd H (by simp)
          ·rw [if_neg c56] at H
           exact absurd H (by simp)
         ·rw [if_neg c55] at H
          exact absurd H (by simp)
        ·rw [if_neg c54] at H
         exact absurd H (by simp)
       ·rw [if_neg c51] at H
        have c51b0 : (t247 == 1) = false := beq_eq_false_iff_ne.mpr c51
        have c51b1 : (t247 != 1) = true := bne_iff_ne.mpr c51
        obtain rfl : q62 = false := hq62.symm.trans c51b0
        have HC68 := zA H
        clear H
        go_upto_if 77 with (fail)
        generalize hq77 : (t247 == 2) = q77
        go_cut [] (fun wc => ∃ (kq : Nat) (x1001_67 : Int) (x1002_67 : Int) (x236001_67 : Int) (x237000_67 : Int) (x237002_67 : List Int) (u237002 : Value), Aside0 (spec_l00Src_job.j3 kq t244 s0_0 x1001_67 x1002_67 t228 x236001_67 t230 x237000_67 (wrap64 (1 + t225)) x237002_67 = some (r1, r2, r3, r4, r5, r6, r7, r8, r9)) ∧ Aside0 (kq ≤ k1) ∧ Aside0 (Kd.Q (Kd.int .i64) 3 wc w.heap.size (fun k_ => some k_ ≠ (u237002 : Value).ownBlock) (.slice Ao19 t230.length co19) t230) ∧ Aside0 (Kd.Q (Kd.int .i64) 3 wc w.heap.size (fun k_ => some k_ ≠ ((.slice Ao19 t230.length co19) : Value).ownBlock) u237002 x237002_67) ∧ Aside0 (wc.heap[gb214]? = some (.cells #[.int .i64 0, .int .i64 0, (.slice none 0 0)] 26 (0, 0))) ∧ Aside0 (wc.heap[gb215]? = some (.cells #[.int .i64 0, .int .i64 0, (.slice none 0 0)] 26 (0, 0))) ∧ Aside0 (wc.heap[gb235]? = some (.cells #[.int .i64 t228, .int .i64 x236001_67, (.slice Ao19 t230.length co19)] 26 (0, 0))) ∧ Aside0 (wc.heap[gb236]? = some (.cells #[.int .i64 x237000_67, .int .i64 (wrap64 (1 + t225)), u237002] 26 (0, 0))) ∧ Aside0 (IsS90 w0 wc g s0_0 x1001_67 x1002_67) ∧ Aside0 (KeepBut w wc g none) ∧ Aside0 (Below w0.heap.size w0 wc))
        case first =>
         have H := HC68.out
         clear HC68
         by_cases c69 : t247 = 2
         ·rw [if_pos c69] at H
          have c69b0 : (t247 == 2) = true := beq_iff_eq.mpr c69
          have c69b1 : (t247 != 2) = false := bne_eq_false_iff_eq.mpr c69
          clear c69
          obtain rfl : q77 = true := hq77.symm.trans c69b0
          have H' := zA H
          clear H
          have hnb70 := NB236_214.out
          have hnc70 := NB214_236.out
          have hnb71 := NB236_215.out
          have hnc71 := NB215_236.out
          have hnb72 := NB236_235.out
          have hnc72 := NB235_236.out
          have hnb73 := NB236_0.out
          have hnc73 := NB0_236.out
          have hcz74_0 : w41.cell? ⟨gb236, 0, none⟩ = some (.int .i64 (wrap64 (1 + t219))) := (blk_cell BK236.out 0).trans rfl
          have hcz74_1 : w41.cell? ⟨gb236, 1, none⟩ = some (.int .i64 (wrap64 (1 + t225))) := (blk_cell BK236.out 1).trans rfl
          have hcz74_2 : w41.cell? ⟨gb236, 2, none⟩ = some (u237002) := (blk_cell BK236.out 2).trans rfl
          have hfz74_0 := blk_frozen BK236.out 0
          have hfz74_1 := blk_frozen BK236.out 1
          have hfz74_2 := blk_frozen BK236.out 2
          go_wp2
          go_meet
          case rel => exact ⟨_, (t248), (t249), (t229), (wrap64 ((wrap64 (1 + t219)) + 1)), (x237002_1), (u237002), H', ⟨by have := HK1.out; first | omega | exact Nat.le_refl _⟩, ⟨by (with_reducible repeat (first | apply Kd.Q_alloc | apply Kd.Q_drewN | apply Kd.Q_drew)); exact Kd.Q_mono (Kd.Q_far (p := ⟨gb236, 0, none⟩) (Kd.Q_types HO_236002.out BK236.out (by decide)) (fun _ hk => hk.2) (.int .i64 (wrap64 ((wrap64 (1 + t219)) + 1)))) (fun _ hk => hk.1)⟩, ⟨by (with_reducible repeat (first | apply Kd.Q_alloc | apply Kd.Q_drewN | apply Kd.Q_drew)); exact Kd.Q_mono (Kd.Q_far (p := ⟨gb236, 0, none⟩) (Kd.Q_types HO_237002.out BK236.out (by decide)) (fun _ hk => hk.2) (.int .i64 (wrap64 ((wrap64 (1 + t219)) + 1)))) (fun _ hk => hk.1)⟩, ⟨bD_ BK214⟩, ⟨bD_ BK215⟩, ⟨bD_ BK235⟩, ⟨by (with_reducible repeat (first | refine zM ?_ _ | refine zN ?_ | refine zO ?_ _)); refine blk_put (cs := #[.int .i64 (wrap64 (1 + t219)), .int .i64 (wrap64 (1 + t225)), u237002]) ?_ 0 _ rfl; (with_reducible repeat (first | refine zM ?_ _ | refine zN ?_ | refine zO ?_ _)); exact BK236.out⟩, ⟨by repeat (first | (with_reducible first | exact HI0.out | apply IsS90.alloc | apply IsS90.drewN | apply IsS90.drew | apply IsS90.set_1 | apply IsS90.set_2 | refine IsS90.far ?_ NB0_214.out _ | refine IsS90.far ?_ NB0_215.out _ | refine IsS90.far ?_ NB0_235.out _ | refine IsS90.far ?_ NB0_236.out _) | exact HI0.out)⟩, ⟨by repeat (first | (with_reducible first | exact HK.out | apply KeepBut.set_ | apply keep_drewN | apply keep_drew | apply keep_alloc | refine keep_far ?_ GW214.out _ | refine keep_far ?_ GW215.out _ | refine keep_far ?_ GW235.out _ | refine keep_far ?_ GW236.out _) | exact HK.out)⟩, ⟨by repeat (first | (with_reducible first | exact HB.out | apply zR | apply zP | apply zQ | refine zS ?_ (IsS90.ge HI0.out) | refine zS ?_ GE214.out | refine zS ?_ GE215.out | refine zS ?_ GE235.out | refine zS ?_ GE236.out) | exact HB.out)⟩⟩
         ·rw [if_neg c69] at H
          have c69b0 : (t247 == 2) = false := beq_eq_false_iff_ne.mpr c69
          have c69b1 : (t247 != 2) = true := bne_iff_ne.mpr c69
          obtain rfl : q77 = false := hq77.symm.trans c69b0
          have HC75 := zA H
          clear H
          go_upto_if 83 with (fail)
          generalize hq83 : (t247 == 3) = q83
          go_cut [] (fun wc => ∃ (kq : Nat) (x1001_74 : Int) (x1002_74 : Int) (x236001_74 : Int) (x237002_74 : List Int) (u237002 : Value), Aside0 (spec_l00Src_job.j2 kq t244 s0_0 x1001_74 x1002_74 t228 x236001_74 t230 (wrap64 (1 + t219)) (wrap64 (1 + t225)) x237002_74 = some (r1, r2, r3, r4, r5, r6, r7, r8, r9)) ∧ Aside0 (kq ≤ k1) ∧ Aside0 (Kd.Q (Kd.int .i64) 3 wc w.heap.size (fun k_ => some k_ ≠ (u237002 : Value).ownBlock) (.slice Ao19 t230.length co19) t230) ∧ Aside0 (Kd.Q (Kd.int .i64) 3 wc w.heap.size (fun k_ => some k_ ≠ ((.slice Ao19 t230.length co19) : Value).ownBlock) u237002 x237002_74) ∧ Aside0 (wc.heap[gb214]? = some (.cells #[.int .i64 0, .int .i64 0, (.slice none 0 0)] 26 (0, 0))) ∧ Aside0 (wc.heap[gb215]? = some (.cells #[.int .i64 0, .int .i64 0, (.slice none 0 0)] 26 (0, 0))) ∧ Aside0 (wc.heap[gb235]? = some (.cells #[.int .i64 t228, .int .i64 x236001_74, (.slice Ao19 t230.length co19)] 26 (0, 0))) ∧ Aside0 (wc.heap[gb236]? = some (.cells #[.int .i64 (wrap64 (1 + t219)), .int .i64 (wrap64 (1 + t225)), u237002] 26 (0, 0))) ∧ Aside0 (IsS90 w0 wc g s0_0 x1001_74 x1002_74) ∧ Aside0 (KeepBut w wc g none) ∧ Aside0 (Below w0.heap.size w0 wc))
          case first =>
           have H := HC75.out
           clear HC75
           by_cases c76 : t247 = 3
           ·rw [if_pos c76] at H
            have c76b0 : (t247 == 3) = true := beq_iff_eq.mpr c76
            have c76b1 : (t247 != 3) = false := bne_eq_false_iff_eq.mpr c76
            clear c76
            obtain rfl : q83 = true := hq83.symm.trans c76b0
            by_cases c77 : 1 ≤ (x237002_1.length : Int)
            ·rw [if_pos c77] at H
             have c77b0 := eq_true c77
             have c77b1 : decide (1 ≤ (x237002_1.length : Int)) = true := decide_eq_true c77
             clear c77
             obtain ⟨y268, hy268⟩ : ∃ y_ : List Int, y_ = (x237002_1.drop (1 : Int).toNat) := ⟨_, rfl⟩
             replace H : (spec_l00Src_job.j2 k1 t244 s0_0 t248 t249 t228 t229 t230 (wrap64 (1 + t219)) (wrap64 (1 + t225)) y268) = some (r1, r2, r3, r4, r5, r6, r7, r8, r9) := by first | (rw [hy268]; with_reducible exact H) | (have H2_ := (Option.bind_some _ _).symm.trans H; rw [hy268]; with_reducible exact H2_) | (have H2_ := (Option.bind_some _ _).symm.trans H; with_reducible exact H2_) | with_reducible exact H | (rw [hy268]; exact H) | exact H
             have Ny268 := zA hy268
             clear hy268
             have H' := zA H
             clear H
             have hnb78 := NB236_214.out
             have hnc78 := NB214_236.out
             have hnb79 := NB236_215.out
             have hnc79 := NB215_236.out
             have hnb80 := NB236_235.out
             have hnc80 := NB235_236.out
             have hnb81 := NB236_0.out
             have hnc81 := NB0_236.out
             have hcz82_0 : w41.cell? ⟨gb236, 0, none⟩ = some (.int .i64 (wrap64 (1 + t219))) := (blk_cell BK236.out 0).trans rfl
             have hcz82_1 : w41.cell? ⟨gb236, 1, none⟩ = some (.int .i64 (wrap64 (1 + t225))) := (blk_cell BK236.out 1).trans rfl
             have hcz82_2 : w41.cell? ⟨gb236, 2, none⟩ = some (u237002) := (blk_cell BK236.out 2).trans rfl
             have hfz82_0 := blk_frozen BK236.out 0
             have hfz82_1 := blk_frozen BK236.out 1
             have hfz82_2 := blk_frozen BK236.out 2
             obtain ⟨Ao83, co83, eo83, _⟩ := Kd.Q_slice HO_237002.out
             subst eo83
             have q84 : (1 : Int) ≤ ((x237002_1.length : Int) : Int) := of_decide_eq_true (by first | (with_reducible assumption) | assumption)
             obtain ⟨i084, hi084, _, hsz84, _⟩ := info_parts info3
             have hcut84 := cut_from (P := Try.prog) 22 3 .i64 Try.underlying22 hi084 1 hsz84 Ao83 x237002_1.length co83 1 (by omega) q84
             have hr84 := Kd.Q_drop (k := (1 : Int).toNat) HO_237002.out (by omega)
             obtain ⟨A84, hA84⟩ : ∃ A1, A1 = (if co83 = (1 : Int).toNat then Ao83 else (Ao83 : Option Addr).map (·.add ((1 : Int).toNat * 1))) := ⟨_, rfl⟩
             obtain ⟨c84, hc84⟩ : ∃ c1, c1 = co83 - (1 : Int).toNat := ⟨_, rfl⟩
             have hy84 : y268.length = x237002_1.length - (1 : Int).toNat := (by rw [Ny268.out, List.length_drop])
             rw [← Ny268.out] at hr84
             rw [← hy84, ← hA84, ← hc84] at hcut84
             replace hr84 : Kd.Q (Kd.int .i64) 3 w41 w.heap.size (fun k_ => some k_ ≠ (.slice Ao19 t230.length co19 : Value).ownBlock) (.slice A84 y268.length c84) y268 := (by rw [hA84, hc84, hy84]; exact hr84)
             have HE84 : Aside0 ((Value.slice A84 y268.length c84).ownBlock = (.slice Ao83 x237002_1.length co83 : Value).ownBlock) := ⟨by rw [hA84]; split <;> (cases (Ao83 : Option Addr) <;> rfl)⟩
             clear hy84 hi084 hsz84 HO_237002 hA84 hc84
             have HO270 := zA hr84
             clear hr84
             replace q84 := eq_true q84
             have n_ := zA (Kd.Q_mono (ok' := fun k_ => some k_ ≠ (.slice A84 y268.length c84 : Value).ownBlock) HO_236002.out (fun k_ hk => (by rw [HE84.out]; exact hk)))
             clear HO_236002
             have HO_236002 := n_
             clear n_
             go_wp2
             go_meet
             case rel => exact ⟨_, (t248), (t249), (t229), (y268), (.slice A84 y268.length c84), H', ⟨by have := HK1.out; first | omega | exact Nat.le_refl _⟩, ⟨by (with_reducible repeat (first | apply Kd.Q_alloc | apply Kd.Q_drewN | apply Kd.Q_drew)); exact Kd.Q_mono (Kd.Q_far (p := ⟨gb236, 2, none⟩) (Kd.Q_types HO_236002.out BK236.out (by decide)) (fun _ hk => hk.2) (.slice A84 y268.length c84)) (fun _ hk => hk.1)⟩, ⟨by (with_reducible repeat (first | apply Kd.Q_alloc | apply Kd.Q_drewN | apply Kd.Q_drew)); exact Kd.Q_mono (Kd.Q_far (p := ⟨gb236, 2, none⟩) (Kd.Q_types HO270.out BK236.out (by decide)) (fun _ hk => hk.2) (.slice A84 y268.length c84)) (fun _ hk => hk.1)⟩, ⟨bD_ BK214⟩, ⟨bD_ BK215⟩, ⟨bD_ BK235⟩, ⟨by (with_reducible repeat (first | refine zM ?_ _ | refine zN ?_ | refine zO ?_ _)); refine blk_put (cs := #[.int .i64 (wrap64 (1 + t219)), .int .i64 (wrap64 (1 + t225)), .slice Ao83 x237002_1.length co83]) ?_ 2 _ rfl; (with_reducible repeat (first | refine zM ?_ _ | refine zN ?_ | refine zO ?_ _)); exact BK236.out⟩, ⟨by repeat (first | (with_reducible first | exact HI0.out | apply IsS90.alloc | apply IsS90.drewN | apply IsS90.drew | apply IsS90.set_1 | apply IsS90.set_2 | refine IsS90.far ?_ NB0_214.out _ | refine IsS90.far ?_ NB0_215.out _ | refine IsS90.far ?_ NB0_235.out _ | refine IsS90.far ?_ NB0_236.out _) | exact HI0.out)⟩, ⟨by repeat (first | (with_reducible first | exact HK.out | apply KeepBut.set_ | apply keep_drewN | apply keep_drew | apply keep_alloc | refine keep_far ?_ GW214.out _ | refine keep_far ?_ GW215.out _ | refine keep_far ?_ GW235.out _ | refine keep_far ?_ GW236.out _) | exact HK.out)⟩, ⟨by repeat (first | (with_reducible first | exact HB.out | apply zR | apply zP | apply zQ | refine zS ?_ (IsS90.ge HI0.out) | refine zS ?_ GE214.out | refine zS ?_ GE215.out | refine zS ?_ GE235.out | refine zS ?_ GE236.out) | exact HB.out)⟩⟩
            ·rw [if_neg c77] at H
             exact absurd H (by simp)
           ·rw [if_neg c76] at H
            have c76b0 : (t247 == 3) = false := beq_eq_false_iff_ne.mpr c76
            have c76b1 : (t247 != 3) = true := bne_iff_ne.mpr c76
            obtain rfl : q83 = false := hq83.symm.trans c76b0
            have HC85 := zA H
            clear H
            go_upto_if 89 with (fail)
            generalize hq89 : (t247 == 4) = q89
            go_cut [] (fun wc => ∃ (kq : Nat) (x1001_84 : Int) (x1002_84 : Int) (x236001_84 : Int), Aside0 (spec_l00Src_job.j1 kq t244 s0_0 x1001_84 x1002_84 t228 x236001_84 t230 (wrap64 (1 + t219)) (wrap64 (1 + t225)) x237002_1 = some (r1, r2, r3, r4, r5, r6, r7, r8, r9)) ∧ Aside0 (kq ≤ k1) ∧ Aside0 (Kd.Q (Kd.int .i64) 3 wc w.heap.size (fun k_ => some k_ ≠ (u237002 : Value).ownBlock) (.slice Ao19 t230.length co19) t230) ∧ Aside0 (Kd.Q (Kd.int .i64) 3 wc w.heap.size (fun k_ => some k_ ≠ ((.slice Ao19 t230.length co19) : Value).ownBlock) u237002 x237002_1) ∧ Aside0 (wc.heap[gb214]? = some (.cells #[.int .i64 0, .int .i64 0, (.slice none 0 0)] 26 (0, 0))) ∧ Aside0 (wc.heap[gb215]? = some (.cells #[.int .i64 0, .int .i64 0, (.slice none 0 0)] 26 (0, 0))) ∧ Aside0 (wc.heap[gb235]? = some (.cells #[.int .i64 t228, .int .i64 x236001_84, (.slice Ao19 t230.length co19)] 26 (0, 0))) ∧ Aside0 (wc.heap[gb236]? = some (.cells #[.int .i64 (wrap64 (1 + t219)), .int .i64 (wrap64 (1 + t225)), u237002] 26 (0, 0))) ∧ Aside0 (IsS90 w0 wc g s0_0 x1001_84 x1002_84) ∧ Aside0 (KeepBut w wc g none) ∧ Aside0 (Below w0.heap.size w0 wc))
            case first =>
             have H := HC85.out
             clear HC85
             by_cases c86 : t247 = 4
             ·rw [if_pos c86] at H
              have c86b0 : (t247 == 4) = true := beq_iff_eq.mpr c86
              have c86b1 : (t247 != 4) = false := bne_eq_false_iff_eq.mpr c86
              clear c86
              obtain rfl : q89 = true := hq89.symm.trans c86b0
              replace H := Option.bind_eq_some_iff.mp H
              obtain ⟨⟨t271, t272, t273⟩, A870, H⟩ := H
              replace H : (spec_l00Src_job.j1 k1 t244 s0_0 t272 t273 t228 t271 t230 (wrap64 (1 + t219)) (wrap64 (1 + t225)) x237002_1) = some (r1, r2, r3, r4, r5, r6, r7, r8, r9) := H
              have A87 := zA A870
              clear A870
              have H' := zA H
              clear H
              go_wp2_with (first | ((with_reducible refine gate_callee (f := 73) rfl ?_); refine goesL_ (some 92) rfl rfl Try.func73 (by kernel_rfl) rfl #[.pointer (some ⟨g, 0, none⟩)] rfl (by (try simp only [List.map_toArray, List.map_cons, List.map_nil]); first | done | rfl | (simp only [List.length_drop, List.length_take]; rfl)) ?_; (with_reducible refine (spec_l00Src_odd.calls g s0_0 t248 t249 t271 t272 t273 w0 _ ?side1 ?side2 A87.out).mono ?_); (case side1 => repeat (first | (with_reducible first | exact HI0.out | apply IsS90.alloc | apply IsS90.drewN | apply IsS90.drew | apply IsS90.set_1 | apply IsS90.set_2 | refine IsS90.far ?_ NB0_214.out _ | refine IsS90.far ?_ NB0_215.out _ | refine IsS90.far ?_ NB0_235.out _ | refine IsS90.far ?_ NB0_236.out _) | exact HI0.out)); (case side2 => repeat (first | (with_reducible first | exact HB.out | apply zR | apply zP | apply zQ | refine zS ?_ (IsS90.ge HI0.out) | refine zS ?_ GE214.out | refine zS ?_ GE215.out | refine zS ?_ GE235.out | refine zS ?_ GE236.out) | exact HB.out)); rintro e w88 ⟨rfl, hi, hb, hk⟩; refine ⟨_, rfl, ?_⟩; have n0_ := zA (Kd.Q_mono (Kd.Q_keep (IsS90.apartQ (show IsS90 w0 _ g s0_0 t248 t249 from by repeat (first | (with_reducible first | exact HI0.out | apply IsS90.alloc | apply IsS90.drewN | apply IsS90.drew | apply IsS90.set_1 | apply IsS90.set_2 | refine IsS90.far ?_ NB0_214.out _ | refine IsS90.far ?_ NB0_215.out _ | refine IsS90.far ?_ NB0_235.out _ | refine IsS90.far ?_ NB0_236.out _) | exact HI0.out)) (by (with_reducible repeat (first | apply Kd.Q_alloc | apply Kd.Q_drewN | apply Kd.Q_drew)); exact HO_236002.out) (by decide)) hk (fun _ h => h.2)) (fun _ h => h.1)); have n1_ := zA (Kd.Q_mono (Kd.Q_keep (IsS90.apartQ (show IsS90 w0 _ g s0_0 t248 t249 from by repeat (first | (with_reducible first | exact HI0.out | apply IsS90.alloc | apply IsS90.drewN | apply IsS90.drew | apply IsS90.set_1 | apply IsS90.set_2 | refine IsS90.far ?_ NB0_214.out _ | refine IsS90.far ?_ NB0_215.out _ | refine IsS90.far ?_ NB0_235.out _ | refine IsS90.far ?_ NB0_236.out _) | exact HI0.out)) (by (with_reducible repeat (first | apply Kd.Q_alloc | apply Kd.Q_drewN | apply Kd.Q_drew)); exact HO_237002.out) (by decide)) hk (fun _ h => h.2)) (fun _ h => h.1)); have n2_ := zA (KeepBut.blk hk (g' := gb214) (o := .cells #[.int .i64 0, .int .i64 0, .slice none 0 0] 26 (0, 0)) (bA_ BK214) NB214_0.out (by simp)); have n3_ := zA (KeepBut.blk hk (g' := gb215) (o := .cells #[.int .i64 0, .int .i64 0, .slice none 0 0] 26 (0, 0)) (bA_ BK215) NB215_0.out (by simp)); have n4_ := zA (KeepBut.blk hk (g' := gb235) (o := .cells #[.int .i64 t228, .int .i64 t229, .slice Ao19 t230.length co19] 26 (0, 0)) (bA_ BK235) NB235_0.out (by simp)); have n5_ := zA (KeepBut.blk hk (g' := gb236) (o := .cells #[.int .i64 (wrap64 (1 + t219)), .int .i64 (wrap64 (1 + t225)), u237002] 26 (0, 0)) (bA_ BK236) NB236_0.out (by simp)); have n6_ := zA (KeepBut.trans (by repeat (first | (with_reducible first | exact HK.out | apply KeepBut.set_ | apply keep_drewN | apply keep_drew | apply keep_alloc | refine keep_far ?_ GW214.out _ | refine keep_far ?_ GW215.out _ | refine keep_far ?_ GW235.out _ | refine keep_far ?_ GW236.out _) | exact HK.out)) hk (.inl rfl)); have n7_ := zA (hb); have n8_ := zA (hi); clear HO_236002; clear HO_237002; clear BK214; clear BK215; clear BK235; clear BK236; clear HK; clear HB; clear HI0; have HO_236002 := n0_; have HO_237002 := n1_; have BK214 := n2_; have BK215 := n3_; have BK235 := n4_; have BK236 := n5_; have HK := n6_; have HB := n7_; have HI0 := n8_; clear n0_ n1_ n2_ n3_ n4_ n5_ n6_ n7_ n8_; (try clear hb); (try clear hb2); (try clear hk); (try clear hi); have hnb89 := NB235_214.out; have hnc89 := NB214_235.out; have hnb90 := NB235_215.out; have hnc90 := NB215_235.out; have hnb91 := NB235_236.out; have hnc91 := NB236_235.out; have hnb92 := NB235_0.out; have hnc92 := NB0_235.out; have hcz93_0 : w88.cell? ⟨gb235, 0, none⟩ = some (.int .i64 t228) := (blk_cell BK235.out 0).trans rfl; have hcz93_1 : w88.cell? ⟨gb235, 1, none⟩ = some (.int .i64 t229) := (blk_cell BK235.out 1).trans rfl; have hcz93_2 : w88.cell? ⟨gb235, 2, none⟩ = some (.slice Ao19 t230.length co19) := (blk_cell BK235.out 2).trans rfl; have hfz93_0 := blk_frozen BK235.out 0; have hfz93_1 := blk_frozen BK235.out 1; have hfz93_2 := blk_frozen BK235.out 2))
              go_meet
              case rel => exact ⟨_, (t272), (t273), (t271), H', ⟨by have := HK1.out; first | omega | exact Nat.le_refl _⟩, ⟨by (with_reducible repeat (first | apply Kd.Q_alloc | apply Kd.Q_drewN | apply Kd.Q_drew)); exact Kd.Q_mono (Kd.Q_far (p := ⟨gb235, 1, none⟩) (Kd.Q_types HO_236002.out BK235.out (by decide)) (fun _ hk => hk.2) (.int .i64 t271)) (fun _ hk => hk.1)⟩, ⟨by (with_reducible repeat (first | apply Kd.Q_alloc | apply Kd.Q_drewN | apply Kd.Q_drew)); exact Kd.Q_mono (Kd.Q_far (p := ⟨gb235, 1, none⟩) (Kd.Q_types HO_237002.out BK235.out (by decide)) (fun _ hk => hk.2) (.int .i64 t271)) (fun _ hk => hk.1)⟩, ⟨bD_ BK214⟩, ⟨bD_ BK215⟩, ⟨by (with_reducible repeat (first | refine zM ?_ _ | refine zN ?_ | refine zO ?_ _)); refine blk_put (cs := #[.int .i64 t228, .int .i64 t229, .slice Ao19 t230.length co19]) ?_ 1 _ rfl; (with_reducible repeat (first | refine zM ?_ _ | refine zN ?_ | refine zO ?_ _)); exact BK235.out⟩, ⟨bD_ BK236⟩, ⟨by repeat (first | (with_reducible first | exact HI0.out | apply IsS90.alloc | apply IsS90.drewN | apply IsS90.drew | apply IsS90.set_1 | apply IsS90.set_2 | refine IsS90.far ?_ NB0_214.out _ | refine IsS90.far ?_ NB0_215.out _ | refine IsS90.far ?_ NB0_235.out _ | refine IsS90.far ?_ NB0_236.out _) | exact HI0.out)⟩, ⟨by repeat (first | (with_reducible first | exact HK.out | apply KeepBut.set_ | apply keep_drewN | apply keep_drew | apply keep_alloc | refine keep_far ?_ GW214.out _ | refine keep_far ?_ GW215.out _ | refine keep_far ?_ GW235.out _ | refine keep_far ?_ GW236.out _) | exact HK.out)⟩, ⟨by repeat (first | (with_reducible first | exact HB.out | apply zR | apply zP | apply zQ | refine zS ?_ (IsS90.ge HI0.out) | refine zS ?_ GE214.out | refine zS ?_ GE215.out | refine zS ?_ GE235.out | refine zS ?_ GE236.out) | exact HB.out)⟩⟩
             ·rw [if_neg c86] at H
              have c86b0 : (t247 == 4) = false := beq_eq_false_iff_ne.mpr c86
              have c86b1 : (t247 != 4) = true := bne_iff_ne.mpr c86
              obtain rfl : q89 = false := hq89.symm.trans c86b0
              have H' := zA H
              clear H
              go_wp2
              go_meet
              case rel => exact ⟨_, (t248), (t249), (t229), H', ⟨by have := HK1.out; first | omega | exact Nat.le_refl _⟩, ⟨by (with_reducible repeat (first | apply Kd.Q_alloc | apply Kd.Q_drewN | apply Kd.Q_drew)); exact HO_236002.out⟩, ⟨by (with_reducible repeat (first | apply Kd.Q_alloc | apply Kd.Q_drewN | apply Kd.Q_drew)); exact HO_237002.out⟩, ⟨bA_ BK214⟩, ⟨bA_ BK215⟩, ⟨bA_ BK235⟩, ⟨bA_ BK236⟩, ⟨by repeat (first | (with_reducible first | exact HI0.out | apply IsS90.alloc | apply IsS90.drewN | apply IsS90.drew | apply IsS90.set_1 | apply IsS90.set_2 | refine IsS90.far ?_ NB0_214.out _ | refine IsS90.far ?_ NB0_215.out _ | refine IsS90.far ?_ NB0_235.out _ | refine IsS90.far ?_ NB0_236.out _) | exact HI0.out)⟩, ⟨by repeat (first | (with_reducible first | exact HK.out | apply KeepBut.set_ | apply keep_drewN | apply keep_drew | apply keep_alloc | refine keep_far ?_ GW214.out _ | refine keep_far ?_ GW215.out _ | refine keep_far ?_ GW235.out _ | refine keep_far ?_ GW236.out _) | exact HK.out)⟩, ⟨by repeat (first | (with_reducible first | exact HB.out | apply zR | apply zP | apply zQ | refine zS ?_ (IsS90.ge HI0.out) | refine zS ?_ GE214.out | refine zS ?_ GE215.out | refine zS ?_ GE235.out | refine zS ?_ GE236.out) | exact HB.out)⟩⟩
            case rest =>
             clear HC85
             try clear c1
             try clear p2
             try clear q2
             try clear hx2
             try clear c5
             try clear p5
             try clear q5
             try clear hx5
             try clear hf5
             try clear c6
             try clear p6
             try clear c7
             try clear c8
             try clear q8
             try clear c9
             try clear p26
             try clear q26
             try clear hx26
             try clear c51
             try clear c51b0
             try clear c51b1
             try clear c54
             try clear c55
             try clear c56
             try clear c57
             try clear p58
             try clear q58
             try clear hx58
             try clear hf58
             try clear p64
             try clear c66
             try clear c69
             try clear c69b0
             try clear c69b1
             try clear c70
             try clear c71
             try clear c72
             try clear c73
             try clear c76
             try clear c76b0
             try clear c76b1
             try clear c77
             try clear c77b0
             try clear c77b1
             try clear c78
             try clear c79
             try clear c80
             try clear c81
             try clear c84
             try clear q84
             try clear c86
             try clear c86b0
             try clear c86b1
             try clear c89
             try clear c90
             try clear c91
             try clear c92
             try clear hcz74_0
             try clear hcz74_1
             try clear hcz74_2
             try clear hcz82_0
             try clear hcz82_1
             try clear hcz82_2
             try clear hcz93_0
             try clear hcz93_1
             try clear hcz93_2
             try clear hfz74_0
             try clear hfz74_1
             try clear hfz74_2
             try clear hfz82_0
             try clear hfz82_1
             try clear hfz82_2
             try clear hfz93_0
             try clear hfz93_1
             try clear hfz93_2
             try clear hx266_0
             try clear hx58_0
             try clear p266
             try clear p58
             try clear q266
             try clear q58
             try clear q84
             obtain ⟨kq, x1001_84, x1002_84, x236001_84, HA, HJ84, HO_236002, HO_237002, BK214, BK215, BK235, BK236, HI0, HK, HB⟩ := hcut
             cases kq with
             | zero => exact absurd HA.out (by simp [spec_l00Src_job.j1])
             | succ kj84 =>
              have H := HA.out
              clear HA
              simp only [spec_l00Src_job.j1] at H
              have H' := zA H
              clear H
              go_wp2
              go_meet
              case rel => exact ⟨_, (x1001_84), (x1002_84), (x236001_84), (x237002_1), (u237002), H', ⟨by have := HK1.out; have := HJ84.out; first | omega | exact Nat.le_refl _⟩, ⟨by (with_reducible repeat (first | apply Kd.Q_alloc | apply Kd.Q_drewN | apply Kd.Q_drew)); exact HO_236002.out⟩, ⟨by (with_reducible repeat (first | apply Kd.Q_alloc | apply Kd.Q_drewN | apply Kd.Q_drew)); exact HO_237002.out⟩, ⟨bA_ BK214⟩, ⟨bA_ BK215⟩, ⟨bA_ BK235⟩, ⟨bA_ BK236⟩, ⟨by repeat (first | (with_reducible first | exact HI0.out | apply IsS90.alloc | apply IsS90.drewN | apply IsS90.drew | apply IsS90.set_1 | apply IsS90.set_2 | refine IsS90.far ?_ NB0_214.out _ | refine IsS90.far ?_ NB0_215.out _ | refine IsS90.far ?_ NB0_235.out _ | refine IsS90.far ?_ NB0_236.out _) | exact HI0.out)⟩, ⟨by repeat (first | (with_reducible first | exact HK.out | apply KeepBut.set_ | apply keep_drewN | apply keep_drew | apply keep_alloc | refine keep_far ?_ GW214.out _ | refine keep_far ?_ GW215.out _ | refine keep_far ?_ GW235.out _ | refine keep_far ?_ GW236.out _) | exact HK.out)⟩, ⟨by repeat (first | (with_reducible first | exact HB.out | apply zR | apply zP | apply zQ | refine zS ?_ (IsS90.ge HI0.out) | refine zS ?_ GE214.out | refine zS ?_ GE215.out | refine zS ?_ GE235.out | refine zS ?_ GE236.out) | exact HB.out)⟩⟩
          case rest =>
           clear HC75
           try clear c1
           try clear p2
           try clear q2
           try clear hx2
           try clear c5
           try clear p5
           try clear q5
           try clear hx5
           try clear hf5
           try clear c6
           try clear p6
           try clear c7
           try clear c8
           try clear q8
           try clear c9
           try clear p26
           try clear q26
           try clear hx26
           try clear c51
           try clear c51b0
           try clear c51b1
           try clear c54
           try clear c55
           try clear c56
           try clear c57
           try clear p58
           try clear q58
           try clear hx58
           try clear hf58
           try clear p64
           try clear c66
           try clear c69
           try clear c69b0
           try clear c69b1
           try clear c70
           try clear c71
           try clear c72
           try clear c73
           try clear c76
           try clear c76b0
           try clear c76b1
           try clear c77
           try clear c77b0
           try clear c77b1
           try clear c78
           try clear c79
           try clear c80
           try clear c81
           try clear c84
           try clear q84
           try clear c86
           try clear c86b0
           try clear c86b1
           try clear c89
           try clear c90
           try clear c91
           try clear c92
           try clear hcz74_0
           try clear hcz74_1
           try clear hcz74_2
           try clear hcz82_0
           try clear hcz82_1
           try clear hcz82_2
           try clear hcz93_0
           try clear hcz93_1
           try clear hcz93_2
           try clear hfz74_0
           try clear hfz74_1
           try clear hfz74_2
           try clear hfz82_0
           try clear hfz82_1
           try clear hfz82_2
           try clear hfz93_0
           try clear hfz93_1
           try clear hfz93_2
           try clear hx266_0
           try clear hx58_0
           try clear p2
           try clear p26
           try clear p266
           try clear p5
           try clear p58
           try clear p6
           try clear p64
           try clear q2
           try clear q26
           try clear q266
           try clear q5
           try clear q58
           try clear q8
           try clear q84
           obtain ⟨kq, x1001_74, x1002_74, x236001_74, x237002_74, u237002, HA, HJ74, HO_236002, HO_237002, BK214, BK215, BK235, BK236, HI0, HK, HB⟩ := hcut
           cases kq with
           | zero => exact absurd HA.out (by simp [spec_l00Src_job.j2])
           | succ kj74 =>
            have H := HA.out
            clear HA
            simp only [spec_l00Src_job.j2] at H
            have H' := zA H
            clear H
            go_wp2
            go_meet
            case rel => exact ⟨_, (x1001_74), (x1002_74), (x236001_74), ((wrap64 (1 + t219))), (x237002_74), (u237002), H', ⟨by have := HK1.out; have := HJ74.out; first | omega | exact Nat.le_refl _⟩, ⟨by (with_reducible repeat (first | apply Kd.Q_alloc | apply Kd.Q_drewN | apply Kd.Q_drew)); exact HO_236002.out⟩, ⟨by (with_reducible repeat (first | apply Kd.Q_alloc | apply Kd.Q_drewN | apply Kd.Q_drew)); exact HO_237002.out⟩, ⟨bA_ BK214⟩, ⟨bA_ BK215⟩, ⟨bA_ BK235⟩, ⟨bA_ BK236⟩, ⟨by repeat (first | (with_reducible first | exact HI0.out | apply IsS90.alloc | apply IsS90.drewN | apply IsS90.drew | apply IsS90.set_1 | apply IsS90.set_2 | refine IsS90.far ?_ NB0_214.out _ | refine IsS90.far ?_ NB0_215.out _ | refine IsS90.far ?_ NB0_235.out _ | refine IsS90.far ?_ NB0_236.out _) | exact HI0.out)⟩, ⟨by repeat (first | (with_reducible first | exact HK.out | apply KeepBut.set_ | apply keep_drewN | apply keep_drew | apply keep_alloc | refine keep_far ?_ GW214.out _ | refine keep_far ?_ GW215.out _ | refine keep_far ?_ GW235.out _ | refine keep_far ?_ GW236.out _) | exact HK.out)⟩, ⟨by repeat (first | (with_reducible first | exact HB.out | apply zR | apply zP | apply zQ | refine zS ?_ (IsS90.ge HI0.out) | refine zS ?_ GE214.out | refine zS ?_ GE215.out | refine zS ?_ GE235.out | refine zS ?_ GE236.out) | exact HB.out)⟩⟩
        case rest =>
         clear HC68
         try clear c1
         try clear p2
         try clear q2
         try clear hx2
         try clear c5
         try clear p5
         try clear q5
         try clear hx5
         try clear hf5
         try clear c6
         try clear p6
         try clear c7
         try clear c8
         try clear q8
         try clear c9
         try clear p26
         try clear q26
         try clear hx26
         try clear c51
         try clear c51b0
         try clear c51b1
         try clear c54
         try clear c55
         try clear c56
         try clear c57
         try clear p58
         try clear q58
         try clear hx58
         try clear hf58
         try clear p64
         try clear c66
         try clear c69
         try clear c69b0
         try clear c69b1
         try clear c70
         try clear c71
         try clear c72
         try clear c73
         try clear c76
         try clear c76b0
         try clear c76b1
         try clear c77
         try clear c77b0
         try clear c77b1
         try clear c78
         try clear c79
         try clear c80
         try clear c81
         try clear c84
         try clear q84
         try clear c86
         try clear c86b0
         try clear c86b1
         try clear c89
         try clear c90
         try clear c91
         try clear c92
         try clear hcz74_0
         try clear hcz74_1
         try clear hcz74_2
         try clear hcz82_0
         try clear hcz82_1
         try clear hcz82_2
         try clear hcz93_0
         try clear hcz93_1
         try clear hcz93_2
         try clear hfz74_0
         try clear hfz74_1
         try clear hfz74_2
         try clear hfz82_0
         try clear hfz82_1
         try clear hfz82_2
         try clear hfz93_0
         try clear hfz93_1
         try clear hfz93_2
         try clear hx266_0
         try clear hx58_0
         try clear p2
         try clear p26
         try clear p266
         try clear p5
         try clear p58
         try clear p6
         try clear p64
         try clear q2
         try clear q26
         try clear q266
         try clear q5
         try clear q58
         try clear q8
         try clear q84
         obtain ⟨kq, x1001_67, x1002_67, x236001_67, x237000_67, x237002_67, u237002, HA, HJ67, HO_236002, HO_237002, BK214, BK215, BK235, BK236, HI0, HK, HB⟩ := hcut
         cases kq with
         | zero => exact absurd HA.out (by simp [spec_l00Src_job.j3])
         | succ kj67 =>
          have H := HA.out
          clear HA
          simp only [spec_l00Src_job.j3] at H
          have H' := zA H
          clear H
          go_wp2
          go_meet
          case rel => exact ⟨_, (x1001_67), (x1002_67), (x236001_67), (t230), (x237000_67), (x237002_67), (.slice Ao19 t230.length co19), (u237002), H', ⟨by have := HK1.out; have := HJ67.out; first | omega | exact Nat.le_refl _⟩, ⟨by (with_reducible repeat (first | apply Kd.Q_alloc | apply Kd.Q_drewN | apply Kd.Q_drew)); exact HO_236002.out⟩, ⟨by (with_reducible repeat (first | apply Kd.Q_alloc | apply Kd.Q_drewN | apply Kd.Q_drew)); exact HO_237002.out⟩, ⟨bA_ BK214⟩, ⟨bA_ BK215⟩, ⟨bA_ BK235⟩, ⟨bA_ BK236⟩, ⟨by repeat (first | (with_reducible first | exact HI0.out | apply IsS90.alloc | apply IsS90.drewN | apply IsS90.drew | apply IsS90.set_1 | apply IsS90.set_2 | refine IsS90.far ?_ NB0_214.out _ | refine IsS90.far ?_ NB0_215.out _ | refine IsS90.far ?_ NB0_235.out _ | refine IsS90.far ?_ NB0_236.out _) | exact HI0.out)⟩, ⟨by repeat (first | (with_reducible first | exact HK.out | apply KeepBut.set_ | apply keep_drewN | apply keep_drew | apply keep_alloc | refine keep_far ?_ GW214.out _ | refine keep_far ?_ GW215.out _ | refine keep_far ?_ GW235.out _ | refine keep_far ?_ GW236.out _) | exact HK.out)⟩, ⟨by repeat (first | (with_reducible first | exact HB.out | apply zR | apply zP | apply zQ | refine zS ?_ (IsS90.ge HI0.out) | refine zS ?_ GE214.out | refine zS ?_ GE215.out | refine zS ?_ GE235.out | refine zS ?_ GE236.out) | exact HB.out)⟩⟩
      case rest =>
       clear HC50
       try clear c1
       try clear p2
       try clear q2
       try clear hx2
       try clear c5
       try clear p5
       try clear q5
       try clear hx5
       try clear hf5
       try clear c6
       try clear p6
       try clear c7
       try clear c8
       try clear q8
       try clear c9
       try clear p26
       try clear q26
       try clear hx26
       try clear c51
       try clear c51b0
       try clear c51b1
       try clear c54
       try clear c55
       try clear c56
       try clear c57
       try clear p58
       try clear q58
       try clear hx58
       try clear hf58
       try clear p64
       try clear c66
       try clear c69
       try clear c69b0
       try clear c69b1
       try clear c70
       try clear c71
       try clear c72
       try clear c73
       try clear c76
       try clear c76b0
       try clear c76b1
       try clear c77
       try clear c77b0
       try clear c77b1
       try clear c78
       try clear c79
       try clear c80
       try clear c81
       try clear c84
       try clear q84
       try clear c86
       try clear c86b0
       try clear c86b1
       try clear c89
       try clear c90
       try clear c91
       try clear c92
       try clear hcz74_0
       try clear hcz74_1
       try clear hcz74_2
       try clear hcz82_0
       try clear hcz82_1
       try clear hcz82_2
       try clear hcz93_0
       try clear hcz93_1
       try clear hcz93_2
       try clear hfz74_0
       try clear hfz74_1
       try clear hfz74_2
       try clear hfz82_0
       try clear hfz82_1
       try clear hfz82_2
       try clear hfz93_0
       try clear hfz93_1
       try clear hfz93_2
       try clear hx266_0
       try clear hx58_0
       try clear p2
       try clear p26
       try clear p266
       try clear p5
       try clear p58
       try clear p6
       try clear p64
       try clear q2
       try clear q26
       try clear q266
       try clear q5
       try clear q58
       try clear q8
       try clear q84
       obtain ⟨kq, x1001_49, x1002_49, x236001_49, x236002_49, x237000_49, x237002_49, u236002, u237002, HA, HJ49, HO_236002, HO_237002, BK214, BK215, BK235, BK236, HI0, HK, HB⟩ := hcut
       cases kq with
       | zero => exact absurd HA.out (by simp [spec_l00Src_job.j4])
       | succ kj49 =>
        have H := HA.out
        clear HA
        simp only [spec_l00Src_job.j4] at H
        have H' := zA H
        clear H
        go_wp2
        go_meet
        case rel => exact ⟨_, (t244), (x1001_49), (x1002_49), (x236001_49), (x236002_49), (x237000_49), (x237002_49), (u236002), (u237002), (by first | rfl | (simp; done) | (simp [*]; done)), H', ⟨by have := HK1.out; have := HJ49.out; first | omega | exact Nat.le_refl _⟩, ⟨by (with_reducible repeat (first | apply Kd.Q_alloc | apply Kd.Q_drewN | apply Kd.Q_drew)); exact HO_236002.out⟩, ⟨by (with_reducible repeat (first | apply Kd.Q_alloc | apply Kd.Q_drewN | apply Kd.Q_drew)); exact HO_237002.out⟩, ⟨bA_ BK214⟩, ⟨bA_ BK215⟩, ⟨bA_ BK235⟩, ⟨bA_ BK236⟩, ⟨by repeat (first | (with_reducible first | exact HI0.out | apply IsS90.alloc | apply IsS90.drewN | apply IsS90.drew | apply IsS90.set_1 | apply IsS90.set_2 | refine IsS90.far ?_ NB0_214.out _ | refine IsS90.far ?_ NB0_215.out _ | refine IsS90.far ?_ NB0_235.out _ | refine IsS90.far ?_ NB0_236.out _) | exact HI0.out)⟩, ⟨by repeat (first | (with_reducible first | exact HK.out | apply KeepBut.set_ | apply keep_drewN | apply keep_drew | apply keep_alloc | refine keep_far ?_ GW214.out _ | refine keep_far ?_ GW215.out _ | refine keep_far ?_ GW235.out _ | refine keep_far ?_ GW236.out _) | exact HK.out)⟩, ⟨by repeat (first | (with_reducible first | exact HB.out | apply zR | apply zP | apply zQ | refine zS ?_ (IsS90.ge HI0.out) | refine zS ?_ GE214.out | refine zS ?_ GE215.out | refine zS ?_ GE235.out | refine zS ?_ GE236.out) | exact HB.out)⟩⟩
    case rest =>
     clear HC39
     try clear c1
     try clear p2
     try clear q2
     try clear hx2
     try clear c5
     try clear p5
     try clear q5
     try clear hx5
     try clear hf5
     try clear c6
     try clear p6
     try clear c7
     try clear c8
     try clear q8
     try clear c9
     try clear p26
     try clear q26
     try clear hx26
     try clear c51
     try clear c51b0
     try clear c51b1
     try clear c54
     try clear c55
     try clear c56
     try clear c57
     try clear p58
     try clear q58
     try clear hx58
     try clear hf58
     try clear p64
     try clear c66
     try clear c69
     try clear c69b0
     try clear c69b1
     try clear c70
     try clear c71
     try clear c72
     try clear c73
     try clear c76
     try clear c76b0
     try clear c76b1
     try clear c77
     try clear c77b0
     try clear c77b1
     try clear c78
     try clear c79
     try clear c80
     try clear c81
     try clear c84
     try clear q84
     try clear c86
     try clear c86b0
     try clear c86b1
     try clear c89
     try clear c90
     try clear c91
     try clear c92
     try clear hcz74_0
     try clear hcz74_1
     try clear hcz74_2
     try clear hcz82_0
     try clear hcz82_1
     try clear hcz82_2
     try clear hcz93_0
     try clear hcz93_1
     try clear hcz93_2
     try clear hfz74_0
     try clear hfz74_1
     try clear hfz74_2
     try clear hfz82_0
     try clear hfz82_1
     try clear hfz82_2
     try clear hfz93_0
     try clear hfz93_1
     try clear hfz93_2
     try clear hx266_0
     try clear hx58_0
     try clear p2
     try clear p26
     try clear p266
     try clear p5
     try clear p58
     try clear p6
     try clear p64
     try clear q2
     try clear q26
     try clear q266
     try clear q5
     try clear q58
     try clear q8
     try clear q84
     obtain ⟨kq, x10_38, x1001_38, x1002_38, x236001_38, x236002_38, x237000_38, x237002_38, u236002, u237002, rfl, HA, HJ38, HO_236002, HO_237002, BK214, BK215, BK235, BK236, HI0, HK, HB⟩ := hcut
     cases kq with
     | zero => exact absurd HA.out (by simp [spec_l00Src_job.j5])
     | succ kj38 =>
      have H := HA.out
      clear HA
      simp only [spec_l00Src_job.j5] at H
      simp only [Option.some.injEq, Prod.mk.injEq] at H
      obtain ⟨rfl, rfl, rfl, rfl, rfl, rfl, rfl, rfl, rfl⟩ := H
      try go_wp2
      have n0_ := zA (Kd.Q_drew HO_236002.out)
      have n1_ := zA (Kd.Q_drew HO_237002.out)
      have n2_ := zA (zN BK214.out)
      have n3_ := zA (zN BK215.out)
      have n4_ := zA (zN BK235.out)
      have n5_ := zA (zN BK236.out)
      have n6_ := zA (IsS90.drew HI0.out)
      have n7_ := zA (keep_drew HK.out)
      have n8_ := zA (zQ HB.out)
      clear HO_236002
      clear HO_237002
      clear BK214
      clear BK215
      clear BK235
      clear BK236
      clear HI0
      clear HK
      clear HB
      have HO_236002 := n0_
      have HO_237002 := n1_
      have BK214 := n2_
      have BK215 := n3_
      have BK235 := n4_
      have BK236 := n5_
      have HI0 := n6_
      have HK := n7_
      have HB := n8_
      clear n0_ n1_ n2_ n3_ n4_ n5_ n6_ n7_ n8_
      obtain ⟨Ao97, co97, eo97, _⟩ := Kd.Q_slice HO_237002.out
      (first | subst eo97 | (injection eo97 with f1_ f2_ f3_; have f4_ := f1_.symm; have f5_ := f3_.symm; clear f1_ f2_ f3_; subst f4_; subst f5_))
      obtain ⟨Ao101, co101, eo101, _⟩ := Kd.Q_slice HO_236002.out
      (first | subst eo101 | (injection eo101 with f1_ f2_ f3_; have f4_ := f1_.symm; have f5_ := f3_.symm; clear f1_ f2_ f3_; subst f4_; subst f5_))
      refine start_ (n := 6) (S := fun w' => w'.cell? ⟨gb236, 0, none⟩ = some (.int .i64 x237000_38) ∧ w'.cell? ⟨gb236, 1, none⟩ = some (.int .i64 (wrap64 (1 + t225))) ∧ w'.cell? ⟨gb236, 2, none⟩ = some (.slice Ao97 x237002_38.length co97) ∧ w'.cell? ⟨gb235, 0, none⟩ = some (.int .i64 t228) ∧ w'.cell? ⟨gb235, 1, none⟩ = some (.int .i64 x236001_38) ∧ w'.cell? ⟨gb235, 2, none⟩ = some (.slice Ao101 x236002_38.length co101)) (ds := []) #[false, false, false, false, false, false] (by kernel_rfl) rfl rfl ⟨(blk_cell BK236.out 0).trans rfl, (blk_cell BK236.out 1).trans rfl, (blk_cell BK236.out 2).trans rfl, (blk_cell BK235.out 0).trans rfl, (blk_cell BK235.out 1).trans rfl, (blk_cell BK235.out 2).trans rfl⟩ (fun hHeld => ?_)
      generalize wc.drew = w94 at HO_236002 HO_237002 BK214 BK215 BK235 BK236 HI0 HK HB hHeld ⊢
      refine pure_ (i := 2) (N := some 96) (v := ?_) (a' := ?_) #[false, false, true, false, false, false] rfl rfl (by kernel_rfl) (fun _ _ _ h => h) (Or.inl ⟨by rfl, ?_⟩) ?_ ?_
      rotate_left
      ·intro w'
       go_simp
       with_reducible rfl
      rotate_left
      ·simp only [Act.put, zB, zC, zD, i64_w, i32_w]
       rfl
      refine take_ (i := 0) (N := some 94) (v := ?_) (a' := ?_) #[true, false, true, false, false, false] rfl rfl (by kernel_rfl) (fun _ _ _ h => h) (Or.inl ⟨by rfl, ?_⟩) hHeld ?_ ?_
      rotate_left
      ·rintro w' ⟨s0, s1, s2, s3, s4, s5⟩
       go_simp
       with_reducible rfl
      rotate_left
      ·simp only [Act.put, zB, zC, zD, i64_w, i32_w]
       rfl
      refine take_ (i := 1) (N := some 95) (v := ?_) (a' := ?_) #[true, true, true, false, false, false] rfl rfl (by kernel_rfl) (fun _ _ _ h => h) (Or.inl ⟨by rfl, ?_⟩) hHeld ?_ ?_
      rotate_left
      ·rintro w' ⟨s0, s1, s2, s3, s4, s5⟩
       go_simp
       with_reducible rfl
      rotate_left
      ·simp only [Act.put, zB, zC, zD, i64_w, i32_w]
       rfl
      refine one_ (i := 3) (N := none) #[true, true, true, true, false, false] rfl rfl (by kernel_rfl) (by decide) (fun K hK => ?_)
      have hs95 : w94.cell? ⟨gb214, 0, none⟩ = some (.int .i64 0) := (blk_cell BK214.out 0).trans rfl
      have hfs95 := blk_frozen BK214.out 0
      have hns95_1 := NB215_214.out
      have hns95_2 := NB235_214.out
      have hns95_3 := NB236_214.out
      have hms95_1 := NB214_215.out
      have hms95_2 := NB214_235.out
      have hms95_3 := NB214_236.out
      have hs96 : w94.cell? ⟨gb214, 1, none⟩ = some (.int .i64 0) := (blk_cell BK214.out 1).trans rfl
      have hfs96 := blk_frozen BK214.out 1
      have hns96_1 := NB215_214.out
      have hns96_2 := NB235_214.out
      have hns96_3 := NB236_214.out
      have hms96_1 := NB214_215.out
      have hms96_2 := NB214_235.out
      have hms96_3 := NB214_236.out
      have hs98 : w94.cell? ⟨gb214, 2, none⟩ = some (.slice none 0 0) := (blk_cell BK214.out 2).trans rfl
      have hfs98 := blk_frozen BK214.out 2
      have hns98_1 := NB215_214.out
      have hns98_2 := NB235_214.out
      have hns98_3 := NB236_214.out
      have hms98_1 := NB214_215.out
      have hms98_2 := NB214_235.out
      have hms98_3 := NB214_236.out
      refine skip_ (w1 := ?_) (by rfl) rfl ?_ ?_
      rotate_left
      ·go_simp
       rfl
      refine hK.out _ _ ⟨((cell_far (p := ⟨gb214, _, none⟩) NB236_214.out _).trans (((cell_far (p := ⟨gb214, _, none⟩) NB236_214.out _).trans (((cell_far (p := ⟨gb214, _, none⟩) NB236_214.out _).trans (hHeld.1)))))), ((cell_far (p := ⟨gb214, _, none⟩) NB236_214.out _).trans (((cell_far (p := ⟨gb214, _, none⟩) NB236_214.out _).trans (((cell_far (p := ⟨gb214, _, none⟩) NB236_214.out _).trans (hHeld.2.1)))))), ((cell_far (p := ⟨gb214, _, none⟩) NB236_214.out _).trans (((cell_far (p := ⟨gb214, _, none⟩) NB236_214.out _).trans (((cell_far (p := ⟨gb214, _, none⟩) NB236_214.out _).trans (hHeld.2.2.1)))))), ((cell_far (p := ⟨gb214, _, none⟩) NB235_214.out _).trans (((cell_far (p := ⟨gb214, _, none⟩) NB235_214.out _).trans (((cell_far (p := ⟨gb214, _, none⟩) NB235_214.out _).trans (hHeld.2.2.2.1)))))), ((cell_far (p := ⟨gb214, _, none⟩) NB235_214.out _).trans (((cell_far (p := ⟨gb214, _, none⟩) NB235_214.out _).trans (((cell_far (p := ⟨gb214, _, none⟩) NB235_214.out _).trans (hHeld.2.2.2.2.1)))))), ((cell_far (p := ⟨gb214, _, none⟩) NB235_214.out _).trans (((cell_far (p := ⟨gb214, _, none⟩) NB235_214.out _).trans (((cell_far (p := ⟨gb214, _, none⟩) NB235_214.out _).trans (hHeld.2.2.2.2.2))))))⟩ (fun hHeld => ?_)
      clear hK K
      refine one_ (i := 4) (N := none) #[true, true, true, true, true, false] rfl rfl (by kernel_rfl) (by decide) (fun K hK => ?_)
      have hs99 : w94.cell? ⟨gb215, 0, none⟩ = some (.int .i64 0) := (blk_cell BK215.out 0).trans rfl
      have hfs99 := blk_frozen BK215.out 0
      have hns99_0 := NB214_215.out
      have hns99_2 := NB235_215.out
      have hns99_3 := NB236_215.out
      have hms99_0 := NB215_214.out
      have hms99_2 := NB215_235.out
      have hms99_3 := NB215_236.out
      have hs100 : w94.cell? ⟨gb215, 1, none⟩ = some (.int .i64 0) := (blk_cell BK215.out 1).trans rfl
      have hfs100 := blk_frozen BK215.out 1
      have hns100_0 := NB214_215.out
      have hns100_2 := NB235_215.out
      have hns100_3 := NB236_215.out
      have hms100_0 := NB215_214.out
      have hms100_2 := NB215_235.out
      have hms100_3 := NB215_236.out
      have hs102 : w94.cell? ⟨gb215, 2, none⟩ = some (.slice none 0 0) := (blk_cell BK215.out 2).trans rfl
      have hfs102 := blk_frozen BK215.out 2
      have hns102_0 := NB214_215.out
      have hns102_2 := NB235_215.out
      have hns102_3 := NB236_215.out
      have hms102_0 := NB215_214.out
      have hms102_2 := NB215_235.out
      have hms102_3 := NB215_236.out
      refine skip_ (w1 := ?_) (by rfl) rfl ?_ ?_
      rotate_left
      ·go_simp
       rfl
      refine hK.out _ _ ⟨((cell_far (p := ⟨gb215, _, none⟩) NB236_215.out _).trans (((cell_far (p := ⟨gb215, _, none⟩) NB236_215.out _).trans (((cell_far (p := ⟨gb215, _, none⟩) NB236_215.out _).trans (hHeld.1)))))), ((cell_far (p := ⟨gb215, _, none⟩) NB236_215.out _).trans (((cell_far (p := ⟨gb215, _, none⟩) NB236_215.out _).trans (((cell_far (p := ⟨gb215, _, none⟩) NB236_215.out _).trans (hHeld.2.1)))))), ((cell_far (p := ⟨gb215, _, none⟩) NB236_215.out _).trans (((cell_far (p := ⟨gb215, _, none⟩) NB236_215.out _).trans (((cell_far (p := ⟨gb215, _, none⟩) NB236_215.out _).trans (hHeld.2.2.1)))))), ((cell_far (p := ⟨gb215, _, none⟩) NB235_215.out _).trans (((cell_far (p := ⟨gb215, _, none⟩) NB235_215.out _).trans (((cell_far (p := ⟨gb215, _, none⟩) NB235_215.out _).trans (hHeld.2.2.2.1)))))), ((cell_far (p := ⟨gb215, _, none⟩) NB235_215.out _).trans (((cell_far (p := ⟨gb215, _, none⟩) NB235_215.out _).trans (((cell_far (p := ⟨gb215, _, none⟩) NB235_215.out _).trans (hHeld.2.2.2.2.1)))))), ((cell_far (p := ⟨gb215, _, none⟩) NB235_215.out _).trans (((cell_far (p := ⟨gb215, _, none⟩) NB235_215.out _).trans (((cell_far (p := ⟨gb215, _, none⟩) NB235_215.out _).trans (hHeld.2.2.2.2.2))))))⟩ (fun hHeld => ?_)
      clear hK K
      refine pure_ (i := 5) (N := some 4) (v := ?_) (a' := ?_) #[true, true, true, true, true, true] rfl rfl (by kernel_rfl) (fun _ _ _ h => h) (Or.inl ⟨by rfl, ?_⟩) ?_ ?_
      rotate_left
      ·intro w'
       go_simp
       with_reducible rfl
      rotate_left
      ·simp only [Act.put, zB, zC, zD, i64_w, i32_w]
       rfl
      refine done_ (by kernel_rfl) ?_
      try go_wp2
      refine bodyPost_ret (results_list (rs := [.cell 2 26, .cell 3 26, .tmp 4]) rfl (by simp) (.cell gb214 26 #[.int .i64 x237000_38, .int .i64 (wrap64 (1 + t225)), .slice Ao97 x237002_38.length co97] (0, 0) _ rfl (by (with_reducible repeat (first | refine zM ?_ _ | refine zN ?_ | refine zO ?_ _)); refine blk_far ?_ NB214_215.out _; (with_reducible repeat (first | refine zM ?_ _ | refine zN ?_ | refine zO ?_ _)); refine blk_far ?_ NB214_215.out _; (with_reducible repeat (first | refine zM ?_ _ | refine zN ?_ | refine zO ?_ _)); refine blk_far ?_ NB214_215.out _; (with_reducible repeat (first | refine zM ?_ _ | refine zN ?_ | refine zO ?_ _)); refine blk_put (cs := #[.int .i64 x237000_38, .int .i64 (wrap64 (1 + t225)), .slice none 0 0]) ?_ 2 _ rfl; (with_reducible repeat (first | refine zM ?_ _ | refine zN ?_ | refine zO ?_ _)); refine blk_put (cs := #[.int .i64 x237000_38, .int .i64 0, .slice none 0 0]) ?_ 1 _ rfl; (with_reducible repeat (first | refine zM ?_ _ | refine zN ?_ | refine zO ?_ _)); refine blk_put (cs := #[.int .i64 0, .int .i64 0, .slice none 0 0]) ?_ 0 _ rfl; (with_reducible repeat (first | refine zM ?_ _ | refine zN ?_ | refine zO ?_ _)); exact BK214.out) Try.underlying26 rfl (by kernel_rfl) (.cell gb215 26 #[.int .i64 t228, .int .i64 x236001_38, .slice Ao101 x236002_38.length co101] (0, 0) _ rfl (by (with_reducible repeat (first | refine zM ?_ _ | refine zN ?_ | refine zO ?_ _)); refine blk_put (cs := #[.int .i64 t228, .int .i64 x236001_38, .slice none 0 0]) ?_ 2 _ rfl; (with_reducible repeat (first | refine zM ?_ _ | refine zN ?_ | refine zO ?_ _)); refine blk_put (cs := #[.int .i64 t228, .int .i64 0, .slice none 0 0]) ?_ 1 _ rfl; (with_reducible repeat (first | refine zM ?_ _ | refine zN ?_ | refine zO ?_ _)); refine blk_put (cs := #[.int .i64 0, .int .i64 0, .slice none 0 0]) ?_ 0 _ rfl; (with_reducible repeat (first | refine zM ?_ _ | refine zN ?_ | refine zO ?_ _)); refine blk_far ?_ NB215_214.out _; (with_reducible repeat (first | refine zM ?_ _ | refine zN ?_ | refine zO ?_ _)); refine blk_far ?_ NB215_214.out _; (with_reducible repeat (first | refine zM ?_ _ | refine zN ?_ | refine zO ?_ _)); refine blk_far ?_ NB215_214.out _; (with_reducible repeat (first | refine zM ?_ _ | refine zN ?_ | refine zO ?_ _)); exact BK215.out) Try.underlying26 rfl (by kernel_rfl) (.tmp .nil)))) rfl ?_
      exact ⟨_, _, by first | rfl | (simp [errW_none, errW_some] <;> rfl) | (simp [*, errW_none, errW_some] <;> rfl), by (with_reducible repeat (first | apply Kd.Q_alloc | apply Kd.Q_drewN | apply Kd.Q_drew)); exact Kd.Q_mono (Kd.Q_far (p := ⟨gb215, 2, none⟩) (Kd.Q_far (p := ⟨gb215, 1, none⟩) (Kd.Q_far (p := ⟨gb215, 0, none⟩) (Kd.Q_far (p := ⟨gb214, 2, none⟩) (Kd.Q_far (p := ⟨gb214, 1, none⟩) (Kd.Q_far (p := ⟨gb214, 0, none⟩) (Kd.Q_types (Kd.Q_types HO_237002.out BK214.out (by decide)) BK215.out (by decide)) (fun _ hk => hk.1.2) (.int .i64 x237000_38)) (fun _ hk => hk.1.2) (.int .i64 (wrap64 (1 + t225)))) (fun _ hk => hk.1.2) (.slice Ao97 x237002_38.length co97)) (fun _ hk => hk.2) (.int .i64 t228)) (fun _ hk => hk.2) (.int .i64 x236001_38)) (fun _ hk => hk.2) (.slice Ao101 x236002_38.length co101)) (fun _ hk => hk.1.1), by (with_reducible repeat (first | apply Kd.Q_alloc | apply Kd.Q_drewN | apply Kd.Q_drew)); exact Kd.Q_mono (Kd.Q_far (p := ⟨gb215, 2, none⟩) (Kd.Q_far (p := ⟨gb215, 1, none⟩) (Kd.Q_far (p := ⟨gb215, 0, none⟩) (Kd.Q_far (p := ⟨gb214, 2, none⟩) (Kd.Q_far (p := ⟨gb214, 1, none⟩) (Kd.Q_far (p := ⟨gb214, 0, none⟩) (Kd.Q_types (Kd.Q_types HO_236002.out BK214.out (by decide)) BK215.out (by decide)) (fun _ hk => hk.1.2) (.int .i64 x237000_38)) (fun _ hk => hk.1.2) (.int .i64 (wrap64 (1 + t225)))) (fun _ hk => hk.1.2) (.slice Ao97 x237002_38.length co97)) (fun _ hk => hk.2) (.int .i64 t228)) (fun _ hk => hk.2) (.int .i64 x236001_38)) (fun _ hk => hk.2) (.slice Ao101 x236002_38.length co101)) (fun _ hk => hk.1.1), by repeat (first | (with_reducible first | exact HI0.out | apply IsS90.alloc | apply IsS90.drewN | apply IsS90.drew | apply IsS90.set_1 | apply IsS90.set_2 | refine IsS90.far ?_ NB0_214.out _ | refine IsS90.far ?_ NB0_215.out _ | refine IsS90.far ?_ NB0_235.out _ | refine IsS90.far ?_ NB0_236.out _) | exact HI0.out), by repeat (first | (with_reducible first | exact HB.out | apply zR | apply zP | apply zQ | refine zS ?_ (IsS90.ge HI0.out) | refine zS ?_ GE214.out | refine zS ?_ GE215.out | refine zS ?_ GE235.out | refine zS ?_ GE236.out) | exact HB.out), by repeat (first | (with_reducible first | exact HK.out | apply KeepBut.set_ | apply keep_drewN | apply keep_drew | apply keep_alloc | refine keep_far ?_ GW214.out _ | refine keep_far ?_ GW215.out _ | refine keep_far ?_ GW235.out _ | refine keep_far ?_ GW236.out _) | exact HK.out)⟩

end Go.Proofs.Ytgmbbcnfcddamaa.PFnContour
