/- Written for this claim by a program of this session: the functions that the law reaches, each with its contract. -/
import Derived.Test.YtgmbbcnfcddamaaPFnExactZigzagx0
import Derived.Test.YtgmbbcnfcddamaaPFnExactZigzagx1
namespace Go.Proofs.Ytgmbbcnfcddamaa.PFnExactZigzag
open Go.RowKit Go.Proofs.YtgmbbcnfcddamaaW.PrintWords Go.Proofs.YtgmbbcnfcddamaaW.PrintLast Go.Proofs.YtgmbbcnfcddamaaW.PrintMore
open Go.Proofs.YtgmbbcnfcddamaaW.PrintWords.Aside0 renaming mk → zA
open List renaming setIfInBounds_toArray → zB, set_cons_zero → zC, set_cons_succ → zD
open Go.Proofs.YtgmbbcnfcddamaaW.PrintWords.Kd renaming R_drewN → zE, R_alloc → zF, R_drew → zG, R_reads' → zK, R_below → zL
open Go.Proofs.YtgmbbcnfcddamaaW.PrintWords renaming blk_drewN → zM, blk_drew → zN, blk_alloc → zO, below_drew1 → zQ, below_size → zT
attribute [local go_sem] i64_w max2_int min2_int max_two min_two max_three min_three max_four min_four
set_option linter.unusedVariables false
set_option linter.unusedSimpArgs false

mutual
def spec_l11Run_stand.l0 : Nat → Int → Int → Int → List Int → Bool → Int → Int → Int → List Int → Int → List Int → Int → List (S61) → Option (Int × (List (S61)) × List Int)
 | 0, _, _, _, _, _, _, _, _, _, _, _, _, _ => none
 | k + 1, x1, x2, x3, x8, x9, x10, x162000, x162001, x162002, x162003, x162004, x162005, x162006 => if x10 < (x8.length : Int) then (if x9 = true then (spec_l11Run_stand.l0 k x1 x2 x3 x8 true (wrap64 (x10 + 1)) x162000 x162001 x162002 x162003 x162004 x162005 x162006) else (if 0 ≤ x10 then (if 0 ≤ (rd x8 x10) then (if (rd x8 x10) < (x162004.length : Int) then (spec_l11Run_stand.l0 k x1 x2 x3 x8 (decide ((rd x162004 (rd x8 x10)) > x3)) (wrap64 (x10 + 1)) x162000 x162001 x162002 x162003 x162004 x162005 x162006) else (none)) else (none)) else (none))) else (if x9 = true then (spec_l11Run_stand.j1 k x1 x2 x3 x8 (decide ((x162006.length : Int) > 2000)) x162000 x162001 x162002 x162003 x162004 x162005 x162006) else (spec_l11Run_stand.j1 k x1 x2 x3 x8 true x162000 x162001 x162002 x162003 x162004 x162005 x162006))
def spec_l11Run_stand.j1 : Nat → Int → Int → Int → List Int → Bool → Int → Int → List Int → Int → List Int → Int → List (S61) → Option (Int × (List (S61)) × List Int)
 | 0, _, _, _, _, _, _, _, _, _, _, _, _ => none
 | k + 1, x1, x2, x3, x8, x53, x162000, x162001, x162002, x162003, x162004, x162005, x162006 => if x53 = true then (some (x162005, x162006, x162004)) else (spec_l11Run_stand.l1 k x1 x2 x3 x8 0 x162000 x162001 x162002 x162003 x162004 x162005 x162006)
def spec_l11Run_stand.l1 : Nat → Int → Int → Int → List Int → Int → Int → Int → List Int → Int → List Int → Int → List (S61) → Option (Int × (List (S61)) × List Int)
 | 0, _, _, _, _, _, _, _, _, _, _, _, _ => none
 | k + 1, x1, x2, x3, x8, x11, x162000, x162001, x162002, x162003, x162004, x162005, x162006 => if x11 < (x8.length : Int) then (if 0 ≤ x11 then (if 0 ≤ (rd x8 x11) then (if (rd x8 x11) < (x162004.length : Int) then (spec_l11Run_stand.l1 k x1 x2 x3 x8 (wrap64 (x11 + 1)) x162000 x162001 x162002 x162003 (x162004.set ((rd x8 x11) : Int).toNat (mn (rd x162004 (rd x8 x11)) x3)) x162005 x162006) else (none)) else (none)) else (none)) else ((some (([(⟨true, x1, x162005, 24⟩ : S61), (⟨true, x1, x2, 24⟩ : S61), (⟨false, x1, x2, x3⟩ : S61), (⟨true, x1, x2, 24⟩ : S61)] : List (S61)) : List (S61))).bind fun y171 => (if x162006.length + y171.length < 4398046511104 then (some (x2, (x162006 ++ y171), x162004)) else (none)))
end
def spec_l11Run_stand.f (k : Nat) (a0 : Int) (a1 : Int) (a2 : Int) (a3 : Int) (a4_0 : Int) (a4_1 : Int) (l4_2 : List Int) (a4_3 : Int) (l4_4 : List Int) (a4_5 : Int) (l4_6 : List (S61)) : Option (Int × (List (S61)) × List Int) := (spec_l10Columns.f k a4_0 a4_1 l4_2 a4_3 a1 a2).bind fun t162 => (spec_l11Run_stand.l0 k a1 a2 a3 t162 false 0 a4_0 a4_1 l4_2 a4_3 l4_4 a4_5 l4_6)
theorem spec_l11Run_stand.mono_l : ∀ k, (∀ y0 y1 y2 y3 y4 y5 y6 y7 y8 y9 y10 y11 y12, LeO (spec_l11Run_stand.l0 k y0 y1 y2 y3 y4 y5 y6 y7 y8 y9 y10 y11 y12) (spec_l11Run_stand.l0 (k + 1) y0 y1 y2 y3 y4 y5 y6 y7 y8 y9 y10 y11 y12)) ∧ (∀ y0 y1 y2 y3 y4 y5 y6 y7 y8 y9 y10 y11, LeO (spec_l11Run_stand.j1 k y0 y1 y2 y3 y4 y5 y6 y7 y8 y9 y10 y11) (spec_l11Run_stand.j1 (k + 1) y0 y1 y2 y3 y4 y5 y6 y7 y8 y9 y10 y11)) ∧ (∀ y0 y1 y2 y3 y4 y5 y6 y7 y8 y9 y10 y11, LeO (spec_l11Run_stand.l1 k y0 y1 y2 y3 y4 y5 y6 y7 y8 y9 y10 y11) (spec_l11Run_stand.l1 (k + 1) y0 y1 y2 y3 y4 y5 y6 y7 y8 y9 y10 y11))
 | 0 => ⟨fun _ _ _ _ _ _ _ _ _ _ _ _ _ r h => by simp [spec_l11Run_stand.l0] at h, fun _ _ _ _ _ _ _ _ _ _ _ _ r h => by simp [spec_l11Run_stand.j1] at h, fun _ _ _ _ _ _ _ _ _ _ _ _ r h => by simp [spec_l11Run_stand.l1] at h⟩
 | k + 1 => by
  obtain ⟨ih0, ih1, ih2⟩ := spec_l11Run_stand.mono_l k
  refine ⟨?_, ?_, ?_⟩
  ·intro y0 y1 y2 y3 y4 y5 y6 y7 y8 y9 y10 y11 y12
   unfold spec_l11Run_stand.l0
   repeat' first
   | (with_reducible exact ih0 _ _ _ _ _ _ _ _ _ _ _ _ _)
   | (with_reducible exact ih1 _ _ _ _ _ _ _ _ _ _ _ _)
   | (with_reducible exact ih2 _ _ _ _ _ _ _ _ _ _ _ _)
   | (with_reducible exact spec_l10Columns.mono _ _ _ _ _ _ _)
   | (with_reducible exact LeO.refl _)
   | (with_reducible exact LeO.none _)
   | (with_reducible refine LeO.ite ?_ ?_)
   | (with_reducible refine LeO.bind ?_ (fun _ => ?_))
   | exact ih0 _ _ _ _ _ _ _ _ _ _ _ _ _
   | exact ih1 _ _ _ _ _ _ _ _ _ _ _ _
   | exact ih2 _ _ _ _ _ _ _ _ _ _ _ _
   | exact spec_l10Columns.mono _ _ _ _ _ _ _
   | exact LeO.none _
   | refine LeO.ite ?_ ?_
   | refine LeO.bind ?_ (fun _ => ?_)
  ·intro y0 y1 y2 y3 y4 y5 y6 y7 y8 y9 y10 y11
   unfold spec_l11Run_stand.j1
   repeat' first
   | (with_reducible exact ih0 _ _ _ _ _ _ _ _ _ _ _ _ _)
   | (with_reducible exact ih1 _ _ _ _ _ _ _ _ _ _ _ _)
   | (with_reducible exact ih2 _ _ _ _ _ _ _ _ _ _ _ _)
   | (with_reducible exact spec_l10Columns.mono _ _ _ _ _ _ _)
   | (with_reducible exact LeO.refl _)
   | (with_reducible exact LeO.none _)
   | (with_reducible refine LeO.ite ?_ ?_)
   | (with_reducible refine LeO.bind ?_ (fun _ => ?_))
   | exact ih0 _ _ _ _ _ _ _ _ _ _ _ _ _
   | exact ih1 _ _ _ _ _ _ _ _ _ _ _ _
   | exact ih2 _ _ _ _ _ _ _ _ _ _ _ _
   | exact spec_l10Columns.mono _ _ _ _ _ _ _
   | exact LeO.none _
   | refine LeO.ite ?_ ?_
   | refine LeO.bind ?_ (fun _ => ?_)
  ·intro y0 y1 y2 y3 y4 y5 y6 y7 y8 y9 y10 y11
   unfold spec_l11Run_stand.l1
   repeat' first
   | (with_reducible exact ih0 _ _ _ _ _ _ _ _ _ _ _ _ _)
   | (with_reducible exact ih1 _ _ _ _ _ _ _ _ _ _ _ _)
   | (with_reducible exact ih2 _ _ _ _ _ _ _ _ _ _ _ _)
   | (with_reducible exact spec_l10Columns.mono _ _ _ _ _ _ _)
   | (with_reducible exact LeO.refl _)
   | (with_reducible exact LeO.none _)
   | (with_reducible refine LeO.ite ?_ ?_)
   | (with_reducible refine LeO.bind ?_ (fun _ => ?_))
   | exact ih0 _ _ _ _ _ _ _ _ _ _ _ _ _
   | exact ih1 _ _ _ _ _ _ _ _ _ _ _ _
   | exact ih2 _ _ _ _ _ _ _ _ _ _ _ _
   | exact spec_l10Columns.mono _ _ _ _ _ _ _
   | exact LeO.none _
   | refine LeO.ite ?_ ?_
   | refine LeO.bind ?_ (fun _ => ?_)
theorem spec_l11Run_stand.mono : ∀ a0 a1 a2 a3 a4 a5 a6 a7 a8 a9 a10 k, LeO (spec_l11Run_stand.f k a0 a1 a2 a3 a4 a5 a6 a7 a8 a9 a10) (spec_l11Run_stand.f (k + 1) a0 a1 a2 a3 a4 a5 a6 a7 a8 a9 a10) := by
 intro a0 a1 a2 a3 a4 a5 a6 a7 a8 a9 a10 k
 obtain ⟨ih0, ih1, ih2⟩ := spec_l11Run_stand.mono_l k
 unfold spec_l11Run_stand.f
 repeat' first
   | (with_reducible exact ih0 _ _ _ _ _ _ _ _ _ _ _ _ _)
   | (with_reducible exact ih1 _ _ _ _ _ _ _ _ _ _ _ _)
   | (with_reducible exact ih2 _ _ _ _ _ _ _ _ _ _ _ _)
   | (with_reducible exact spec_l10Columns.mono _ _ _ _ _ _ _)
   | (with_reducible exact LeO.refl _)
   | (with_reducible exact LeO.none _)
   | (with_reducible refine LeO.ite ?_ ?_)
   | (with_reducible refine LeO.bind ?_ (fun _ => ?_))
   | exact ih0 _ _ _ _ _ _ _ _ _ _ _ _ _
   | exact ih1 _ _ _ _ _ _ _ _ _ _ _ _
   | exact ih2 _ _ _ _ _ _ _ _ _ _ _ _
   | exact spec_l10Columns.mono _ _ _ _ _ _ _
   | exact LeO.none _
   | refine LeO.ite ?_ ?_
   | refine LeO.bind ?_ (fun _ => ?_)
def spec_l11Run_stand.T0 : Bool × List (List Nat × List Nat) := (true, [([], []), ([0], [0]), ([1], [1]), ([2], [2]), ([], []), ([4], [4]), ([5], [5]), ([6], [6]), ([], []), ([], []), ([3, 7, 8, 9], [3, 7, 8, 9]), ([10, 10, 0, 1, 2, 3, 4, 5, 6, 7, 8, 9, 10], [10])])
def spec_l11Run_stand.B0 : List Nat := [0, 1, 3, 7, 0, 16, 48, 112, 0, 0, 1023, 2047]
theorem spec_l11Run_stand.tab0 : rtab .any (opsOf Try.f59 0) = spec_l11Run_stand.T0 := by kernel_rfl
theorem spec_l11Run_stand.bits0 : waitsOk spec_l11Run_stand.T0.2 spec_l11Run_stand.B0 = true := by kernel_rfl
def spec_l11Run_stand.T5 : Bool × List (List Nat × List Nat) := (true, [([], []), ([0], [0]), ([1], [1]), ([2, 1], [1, 2]), ([3, 1], [1, 3]), ([4, 1], [1, 4]), ([1], [1]), ([1], [1]), ([6, 7, 1], [1, 6, 7]), ([8, 1], [1, 8]), ([5, 9, 1], [1, 5, 9]), ([10, 1], [1, 10]), ([1], [1]), ([11, 12, 1], [1, 11, 12]), ([1, 13], [1, 13]), ([14, 1, 0, 1, 2, 3, 4, 5, 6, 7, 8, 9, 10, 11, 12, 13, 14], [0, 14])])
def spec_l11Run_stand.B5 : List Nat := [0, 1, 3, 7, 15, 31, 3, 3, 195, 451, 1023, 2047, 3, 8191, 16383, 32767]
theorem spec_l11Run_stand.tab5 : rtab .any (opsOf Try.f59 5) = spec_l11Run_stand.T5 := by kernel_rfl
theorem spec_l11Run_stand.bits5 : waitsOk spec_l11Run_stand.T5.2 spec_l11Run_stand.B5 = true := by kernel_rfl
def spec_l11Run_stand.T10 : Bool × List (List Nat × List Nat) := (true, [([], []), ([0], [0]), ([1], [1]), ([2], [2]), ([], []), ([], []), ([4, 5], [4, 5]), ([6], [6]), ([], []), ([8], [8]), ([9], [9]), ([10], [10]), ([], []), ([], []), ([12, 13], [12, 13]), ([14], [14]), ([11, 15], [11, 15]), ([16], [16]), ([], []), ([17, 18], [17, 18]), ([3, 7, 0, 1, 2, 3, 4, 5, 6, 7, 8, 9, 10, 11, 12, 13, 14, 15, 16, 17, 18, 19], [3, 7]), ([20, 19, 0, 1, 2, 3, 4, 5, 6, 7, 8, 9, 10, 11, 12, 13, 14, 15, 16, 17, 18, 19], [19, 20])])
def spec_l11Run_stand.B10 : List Nat := [0, 1, 3, 7, 0, 0, 48, 112, 0, 256, 768, 1792, 0, 0, 12288, 28672, 65280, 130816, 0, 524032, 1048575, 2097151]
theorem spec_l11Run_stand.tab10 : rtab .any (opsOf Try.f59 10) = spec_l11Run_stand.T10 := by kernel_rfl
theorem spec_l11Run_stand.bits10 : waitsOk spec_l11Run_stand.T10.2 spec_l11Run_stand.B10 = true := by kernel_rfl
def spec_l11Run_stand.T11 : Bool × List (List Nat × List Nat) := (true, [([], []), ([], []), ([1], [1]), ([2], [2]), ([3], [3]), ([], []), ([], []), ([6], [6]), ([7], [7]), ([8], [8]), ([5, 9], [5, 9]), ([], []), ([], []), ([11, 12], [11, 12]), ([], []), ([], []), ([], []), ([14, 15, 16], [14, 15, 16]), ([], []), ([], []), ([18, 19], [18, 19]), ([10, 13, 17, 20], [10, 13, 17, 20]), ([4, 21], [4, 21]), ([0, 0, 1, 2, 3, 4, 5, 6, 7, 8, 9, 10, 11, 12, 13, 14, 15, 16, 17, 18, 19, 20, 21, 22], [0]), ([23, 0, 1, 2, 3, 4, 5, 6, 7, 8, 9, 10, 11, 12, 13, 14, 15, 16, 17, 18, 19, 20, 21, 22], [23]), ([24, 22, 22, 0, 1, 2, 3, 4, 5, 6, 7, 8, 9, 10, 11, 12, 13, 14, 15, 16, 17, 18, 19, 20, 21, 22], [22, 24])])
def spec_l11Run_stand.B11 : List Nat := [0, 0, 2, 6, 14, 0, 0, 64, 192, 448, 992, 0, 0, 6144, 0, 0, 0, 114688, 0, 0, 786432, 2097120, 4194302, 8388607, 16777215, 33554431]
theorem spec_l11Run_stand.tab11 : rtab .any (opsOf Try.f59 11) = spec_l11Run_stand.T11 := by kernel_rfl
theorem spec_l11Run_stand.bits11 : waitsOk spec_l11Run_stand.T11.2 spec_l11Run_stand.B11 = true := by kernel_rfl
set_option maxHeartbeats 8000000 in
set_option maxRecDepth 100000 in
theorem spec_l11Run_stand.calls (k : Nat) (a0 : Int) (a1 : Int) (a2 : Int) (a3 : Int) (a4_0 : Int) (a4_1 : Int) (A4_2 : Option Addr) (c4_2 : Nat) (l4_2 : List Int) (a4_3 : Int) (P4_4_ : Nat → Prop) (u9000_ : Value) (l4_4 : List Int) (a4_5 : Int) (P4_6_ : Nat → Prop) (u9001_ : Value) (l4_6 : List (S61)) (r1 : Int) (r2 : List (S61)) (r3 : List Int) (w0 w : World) (hB : Below w0.heap.size w0 w) (hr4_2 : ∀ W_, Kept w W_ (fun k_ => P4_4_ k_ ∨ P4_6_ k_) → Kd.C (Kd.int .i64) W_ A4_2 l4_2.length l4_2) (hc4_2 : l4_2.length ≤ c4_2) (ho4_4 : Kd.R (Kd.int .i64) 3 w w0.heap.size P4_4_ u9000_ l4_4) (ho4_6 : Kd.R k61 61 w w0.heap.size P4_6_ u9001_ l4_6) (gb161 : Nat) (hM : w.heap[gb161]? = some (.cells #[.int .i64 a4_0, .int .i64 a4_1, .slice A4_2 l4_2.length c4_2, .int .i64 a4_3, u9000_, .int .i64 a4_5, u9001_] 78 (0, 0))) (hgS : P4_4_ gb161) (hgE : w0.heap.size ≤ gb161) (h : spec_l11Run_stand.f k a0 a1 a2 a3 a4_0 a4_1 l4_2 a4_3 l4_4 a4_5 l4_6 = some (r1, r2, r3)) :
  Calls Try.prog 59 #[.pointer (some ⟨gb161, 0, none⟩), .int .i64 a1, .int .i64 a2, .int .i64 a3] w fun e w' => ∃ v1_ : Value, e = .returned (.tuple #[]) ∧ w'.heap[gb161]? = some (.cells #[.int .i64 a4_0, .int .i64 a4_1, .slice A4_2 l4_2.length c4_2, .int .i64 a4_3, u9000_, .int .i64 r1, v1_] 78 (0, 0)) ∧ Kd.R k61 61 w' w0.heap.size (fun k_ => ((P4_4_ k_ ∨ P4_6_ k_) ∨ w.heap.size ≤ k_)) v1_ r2 ∧ Kd.R (Kd.int .i64) 3 w' w0.heap.size (fun k_ => ((P4_4_ k_ ∨ P4_6_ k_) ∨ w.heap.size ≤ k_)) u9000_ r3 ∧ Below w0.heap.size w0 w' ∧ Kept w w' (fun k_ => P4_4_ k_ ∨ P4_6_ k_) := by
 have hu78 := Try.underlying78
 have hu26 := Try.underlying26
 have hu61 := Try.underlying61
 have HR4_2 := zA hr4_2
 have HC4_2 := zA hc4_2
 clear hr4_2 hc4_2
 have HO4_4 := zA (show Kd.R (Kd.int .i64) 3 w w0.heap.size (fun k_ => ((P4_4_ k_ ∨ P4_6_ k_) ∨ w.heap.size ≤ k_)) u9000_ l4_4 from Kd.R_mono ho4_4 (fun k_ hk => (.inl (.inl hk))))
 have HO4_6 := zA (show Kd.R k61 61 w w0.heap.size (fun k_ => ((P4_4_ k_ ∨ P4_6_ k_) ∨ w.heap.size ≤ k_)) u9001_ l4_6 from Kd.R_mono ho4_6 (fun k_ hk => (.inl (.inr hk))))
 have HK := zA (Kept.refl w (fun k_ => P4_4_ k_ ∨ P4_6_ k_))
 have HW0 := zA hB.size
 have HB := zA hB
 have BK161 := zA hM
 have GE161 := zA hgE
 clear hM hgE
 clear hB
 have H : ((spec_l10Columns.f k a4_0 a4_1 l4_2 a4_3 a1 a2).bind fun t162 => (spec_l11Run_stand.l0 k a1 a2 a3 t162 false 0 a4_0 a4_1 l4_2 a4_3 l4_4 a4_5 l4_6)) = some (r1, r2, r3) := h
 clear h
 replace H := Option.bind_eq_some_iff.mp H
 obtain ⟨t162, A60, H⟩ := H
 replace H : (spec_l11Run_stand.l0 k a1 a2 a3 t162 false 0 a4_0 a4_1 l4_2 a4_3 l4_4 a4_5 l4_6) = some (r1, r2, r3) := H
 have A6 := zA A60
 clear A60
 have H' := zA H
 clear H
 obtain ⟨Ao7, co7, eo7⟩ := Kd.R_slice HO4_4.out
 subst eo7
 obtain ⟨Ao8, co8, eo8⟩ := Kd.R_slice HO4_6.out
 subst eo8
 go_enter Try.func59, Try.ntmps59
 try go_wp2
 have n0_ := zA (zG HO4_4.out)
 have n1_ := zA (zG HO4_6.out)
 have n2_ := zA (zN BK161.out)
 have n3_ := zA (Kept.drew HK.out)
 have n4_ := zA (zQ HB.out)
 clear HO4_4
 clear HO4_6
 clear BK161
 clear HK
 clear HB
 have HO4_4 := n0_
 have HO4_6 := n1_
 have BK161 := n2_
 have HK := n3_
 have HB := n4_
 clear n0_ n1_ n2_ n3_ n4_
 refine start_ (n := 12) (S := fun w' => w'.cell? ⟨gb161, 0, none⟩ = some (.int .i64 a4_0) ∧ w'.cell? ⟨gb161, 1, none⟩ = some (.int .i64 a4_1) ∧ w'.cell? ⟨gb161, 2, none⟩ = some (.slice A4_2 l4_2.length c4_2) ∧ w'.cell? ⟨gb161, 3, none⟩ = some (.int .i64 a4_3) ∧ w'.cell? ⟨gb161, 4, none⟩ = some (.slice Ao7 l4_4.length co7) ∧ w'.cell? ⟨gb161, 5, none⟩ = some (.int .i64 a4_5) ∧ w'.cell? ⟨gb161, 6, none⟩ = some (.slice Ao8 l4_6.length co8)) (ds := []) #[false, false, false, false, false, false, false, false, false, false, false, false] (by kernel_rfl) rfl rfl ⟨(blk_cell BK161.out 0).trans rfl, (blk_cell BK161.out 1).trans rfl, (blk_cell BK161.out 2).trans rfl, (blk_cell BK161.out 3).trans rfl, (blk_cell BK161.out 4).trans rfl, (blk_cell BK161.out 5).trans rfl, (blk_cell BK161.out 6).trans rfl⟩ (fun hHeld => ?_); refine with_tabW spec_l11Run_stand.tab0 spec_l11Run_stand.bits0 (fun HT_ HW_ => ?_)
 generalize w.drew = w10 at HO4_4 HO4_6 BK161 HK HB hHeld ⊢
 refine pure_ (i := 0) (N := some 12) (v := ?_) (a' := ?_) #[true, false, false, false, false, false, false, false, false, false, false, false] rfl rfl (any_of HT_.out (by kernel_rfl)) (fun _ _ _ h => h) (Or.inl ⟨by rfl, ?_⟩) ?_ ?_
 rotate_left
 ·intro w'
  go_simp
  with_reducible rfl
 rotate_left
 ·simp only [Act.put, zB, zC, zD, i64_w, i32_w]
  rfl
 refine pure_ (i := 1) (N := some 13) (v := ?_) (a' := ?_) #[true, true, false, false, false, false, false, false, false, false, false, false] rfl rfl (any_of HT_.out (by kernel_rfl)) (fun _ _ _ h => h) (Or.inl ⟨by rfl, ?_⟩) ?_ ?_
 rotate_left
 ·intro w'
  go_simp
  with_reducible rfl
 rotate_left
 ·simp only [Act.put, zB, zC, zD, i64_w, i32_w]
  rfl
 refine pure_ (i := 2) (N := some 14) (v := ?_) (a' := ?_) #[true, true, true, false, false, false, false, false, false, false, false, false] rfl rfl (any_of HT_.out (by kernel_rfl)) (fun _ _ _ h => h) (Or.inl ⟨by rfl, ?_⟩) ?_ ?_
 rotate_left
 ·intro w'
  go_simp
  with_reducible rfl
 rotate_left
 ·simp only [Act.put, zB, zC, zD, i64_w, i32_w]
  rfl
 refine pure_ (i := 4) (N := some 16) (v := ?_) (a' := ?_) #[true, true, true, false, true, false, false, false, false, false, false, false] rfl rfl (any_of HT_.out (by kernel_rfl)) (fun _ _ _ h => h) (Or.inl ⟨by rfl, ?_⟩) ?_ ?_
 rotate_left
 ·intro w'
  go_simp
  with_reducible rfl
 rotate_left
 ·simp only [Act.put, zB, zC, zD, i64_w, i32_w]
  rfl
 refine pure_ (i := 5) (N := some 17) (v := ?_) (a' := ?_) #[true, true, true, false, true, true, false, false, false, false, false, false] rfl rfl (any_of HT_.out (by kernel_rfl)) (fun _ _ _ h => h) (Or.inl ⟨by rfl, ?_⟩) ?_ ?_
 rotate_left
 ·intro w'
  go_simp
  with_reducible rfl
 rotate_left
 ·simp only [Act.put, zB, zC, zD, i64_w, i32_w]
  rfl
 refine pure_ (i := 6) (N := some 18) (v := ?_) (a' := ?_) #[true, true, true, false, true, true, true, false, false, false, false, false] rfl rfl (any_of HT_.out (by kernel_rfl)) (fun _ _ _ h => h) (Or.inl ⟨by rfl, ?_⟩) ?_ ?_
 rotate_left
 ·intro w'
  go_simp
  with_reducible rfl
 rotate_left
 ·simp only [Act.put, zB, zC, zD, i64_w, i32_w]
  rfl
 refine pure_ (i := 8) (N := some 20) (v := ?_) (a' := ?_) #[true, true, true, false, true, true, true, false, true, false, false, false] rfl rfl (any_of HT_.out (by kernel_rfl)) (fun _ _ _ h => h) (Or.inl ⟨by rfl, ?_⟩) ?_ ?_
 rotate_left
 ·intro w'
  go_simp
  with_reducible rfl
 rotate_left
 ·simp only [Act.put, zB, zC, zD, i64_w, i32_w]
  rfl
 refine pure_ (i := 9) (N := some 21) (v := ?_) (a' := ?_) #[true, true, true, false, true, true, true, false, true, true, false, false] rfl rfl (any_of HT_.out (by kernel_rfl)) (fun _ _ _ h => h) (Or.inl ⟨by rfl, ?_⟩) ?_ ?_
 rotate_left
 ·intro w'
  go_simp
  with_reducible rfl
 rotate_left
 ·simp only [Act.put, zB, zC, zD, i64_w, i32_w]
  rfl
 refine take_ (i := 3) (N := some 15) (v := ?_) (a' := ?_) #[true, true, true, true, true, true, true, false, true, true, false, false] rfl rfl (take_ofW HT_.out HW_.out (by kernel_rfl)) (fun _ _ _ h => h) (Or.inl ⟨by rfl, ?_⟩) hHeld ?_ ?_
 rotate_left
 ·rintro w' ⟨s0, s1, s2, s3, s4, s5, s6⟩
  go_simp
  with_reducible rfl
 rotate_left
 ·simp only [Act.put, zB, zC, zD, i64_w, i32_w]
  rfl
 refine take_ (i := 7) (N := some 19) (v := ?_) (a' := ?_) #[true, true, true, true, true, true, true, true, true, true, false, false] rfl rfl (take_ofW HT_.out HW_.out (by kernel_rfl)) (fun _ _ _ h => h) (Or.inl ⟨by rfl, ?_⟩) hHeld ?_ ?_
 rotate_left
 ·rintro w' ⟨s0, s1, s2, s3, s4, s5, s6⟩
  go_simp
  with_reducible rfl
 rotate_left
 ·simp only [Act.put, zB, zC, zD, i64_w, i32_w]
  rfl
 refine one_ (i := 10) (N := some 22) #[true, true, true, true, true, true, true, true, true, true, true, false] rfl rfl (one_of HT_.out (by kernel_rfl)) (by decide) (fun K hK => ?_)
 refine goes_ Try.func42 (by kernel_rfl) rfl #[.agg #[.int .i64 a4_0, .int .i64 a4_1, .slice A4_2 l4_2.length c4_2], .int .i64 a4_3, .int .i64 a1, .int .i64 a2] (by rfl) rfl rfl (by (try simp only [List.map_toArray, List.map_cons, List.map_nil]); first | done | rfl | (simp only [List.length_drop, List.length_take]; rfl)) ?_
 with_reducible refine (spec_l10Columns.calls k a4_0 a4_1 _ _ l4_2 a4_3 a1 a2 t162 _ ?side1 ?side2 A6.out).mono ?_
 (case side1 => exact Kd.C_kept_now HR4_2.out (by repeat (first | (with_reducible first | exact HK.out | apply Kept.alloc | apply Kept.drewN | apply Kept.drew | refine Kept.setCell ?_ (.inl (.inl hgS)) _) | exact HK.out)))
 (case side2 => exact HC4_2.out)
 rintro e w11 ⟨v163, rfl, ho0, hb⟩
 refine ⟨_, rfl, ?_⟩
 have n0_ := zA (Kd.R_elder' (bC_ HO4_4) (Kd.R_base ho0) hb)
 have n1_ := zA (zL (bC_ HO4_6) hb)
 have n2_ := zA (Kd.R_lower (Kd.R_new' (Kd.R_newM (M := fun k_ => ((P4_4_ k_ ∨ P4_6_ k_) ∨ w.heap.size ≤ k_)) ho0 (by first | exact HK.out.1 | exact (show Kept w _ (fun k_ => P4_4_ k_ ∨ P4_6_ k_) from by repeat (first | (with_reducible first | exact HK.out | apply Kept.alloc | apply Kept.drewN | apply Kept.drew | refine Kept.setCell ?_ (.inl (.inl hgS)) _) | exact HK.out)).1) (fun k_ h_ => .inr h_)) (Kd.R_lt (bC_ HO4_4))) (zT (bB_ HB)))
 have n3_ := zA (blk_below (g := gb161) (o := .cells #[.int .i64 a4_0, .int .i64 a4_1, .slice A4_2 l4_2.length c4_2, .int .i64 a4_3, .slice Ao7 l4_4.length co7, .int .i64 a4_5, .slice Ao8 l4_6.length co8] 78 (0, 0)) (bA_ BK161) hb)
 have n4_ := zA (Kept.below (S := (fun k_ => P4_4_ k_ ∨ P4_6_ k_)) (by repeat (first | (with_reducible first | exact HK.out | apply Kept.alloc | apply Kept.drewN | apply Kept.drew | refine Kept.setCell ?_ (.inl (.inl hgS)) _) | exact HK.out)) hb)
 have n5_ := zA (below_step (bB_ HB) hb)
 clear HO4_4
 clear HO4_6
 clear BK161
 clear HK
 clear HB
 have HO4_4 := n0_
 have HO4_6 := n1_
 have HO164 := n2_
 have BK161 := n3_
 have HK := n4_
 have HB := n5_
 clear n0_ n1_ n2_ n3_ n4_ n5_
 (try clear hb)
 (try clear hb2)
 (try clear hk)
 (try clear hi)
 (try clear ho0)
 refine hK.out _ _ ⟨(blk_cell BK161.out 0).trans rfl, (blk_cell BK161.out 1).trans rfl, (blk_cell BK161.out 2).trans rfl, (blk_cell BK161.out 3).trans rfl, (blk_cell BK161.out 4).trans rfl, (blk_cell BK161.out 5).trans rfl, (blk_cell BK161.out 6).trans rfl⟩ (fun hHeld => ?_)
 clear hK K
 refine norm_ (a' := ?_) ?_ ?_
 rotate_left
 ·show Act.put _ (some 22) _ = _
  simp only [Act.put, zB, zC, zD, i64_w, i32_w]
  rfl
 refine pure_ (i := 11) (N := some 8) (v := ?_) (a' := ?_) #[true, true, true, true, true, true, true, true, true, true, true, true] rfl rfl (any_of HT_.out (by kernel_rfl)) (fun _ _ _ h => h) (Or.inl ⟨by rfl, ?_⟩) ?_ ?_
 rotate_left
 ·intro w'
  go_simp
  with_reducible rfl
 rotate_left
 ·simp only [Act.put, zB, zC, zD, i64_w, i32_w]
  rfl
 refine done_ (done_of HT_.out (by kernel_rfl)) ?_
 try go_wp2
 go_loopg [9, 10] k (fun kq v9 v10 w' => ∃ (x9_1 : Bool) (x10_1 : Int), v9 = .bool x9_1 ∧ v10 = .int .i64 x10_1 ∧ Aside0 (spec_l11Run_stand.l0 kq a1 a2 a3 t162 x9_1 x10_1 a4_0 a4_1 l4_2 a4_3 l4_4 a4_5 l4_6 = some (r1, r2, r3)) ∧ Aside0 (kq ≤ k) ∧ Aside0 (Kd.R (Kd.int .i64) 3 w' w0.heap.size (fun k_ => ((P4_4_ k_ ∨ P4_6_ k_) ∨ w.heap.size ≤ k_) ∧ some k_ ≠ ((.slice Ao7 l4_4.length co7) : Value).ownBlock) v163 t162) ∧ Aside0 (Kd.R (Kd.int .i64) 3 w' w0.heap.size (fun k_ => ((P4_4_ k_ ∨ P4_6_ k_) ∨ w.heap.size ≤ k_) ∧ some k_ ≠ (v163 : Value).ownBlock) (.slice Ao7 l4_4.length co7) l4_4) ∧ Aside0 (Kd.R k61 61 w' w0.heap.size (fun k_ => ((P4_4_ k_ ∨ P4_6_ k_) ∨ w.heap.size ≤ k_)) (.slice Ao8 l4_6.length co8) l4_6) ∧ Aside0 (w'.heap[gb161]? = some (.cells #[.int .i64 a4_0, .int .i64 a4_1, (.slice A4_2 l4_2.length c4_2), .int .i64 a4_3, (.slice Ao7 l4_4.length co7), .int .i64 a4_5, (.slice Ao8 l4_6.length co8)] 78 (0, 0))) ∧ Aside0 (Kept w w' (fun k_ => P4_4_ k_ ∨ P4_6_ k_)) ∧ Aside0 (Below w0.heap.size w0 w'))
 case atStart => exact ⟨(false), (0), (by first | rfl | (simp; done) | (simp [*]; done)), (by first | rfl | (simp; done) | (simp [*]; done)), H', ⟨Nat.le_refl _⟩, ⟨by (with_reducible repeat (first | apply zF | apply zE | apply zG)); exact Kd.R_mono HO164.out (fun _ hk => ⟨hk.1.1, hk.2⟩)⟩, ⟨bC_ HO4_4⟩, ⟨bC_ HO4_6⟩, ⟨bA_ BK161⟩, ⟨by repeat (first | (with_reducible first | exact HK.out | apply Kept.alloc | apply Kept.drewN | apply Kept.drew | refine Kept.setCell ?_ (.inl (.inl hgS)) _) | exact HK.out)⟩, ⟨bB_ HB⟩⟩
 case round =>
  clear H'
  try clear p2
  try clear c4
  try clear c5
  obtain ⟨x9_1, x10_1, rfl, rfl, HA, HK1, HO_8, HO_162004, HO_162006, BK161, HK, HB⟩ := hrel
  cases gk with
  | zero => exact absurd HA.out (by simp [spec_l11Run_stand.l0])
  | succ k1 =>
   have H := HA.out
   clear HA
   simp only [spec_l11Run_stand.l0] at H
   by_cases c12 : x10_1 < (t162.length : Int)
   ·rw [if_pos c12] at H
    have c12b0 : decide (x10_1 < (t162.length : Int)) = true := decide_eq_true c12
    clear c12
    by_cases c13 : x9_1 = true
    ·subst c13
     have H1 : (spec_l11Run_stand.l0 k1 a1 a2 a3 t162 true (wrap64 (x10_1 + 1)) a4_0 a4_1 l4_2 a4_3 l4_4 a4_5 l4_6) = some (r1, r2, r3) := by rw [if_pos rfl] at H; exact H
     clear H
     have H := H1
     clear H1
     have H' := zA H
     clear H
     obtain ⟨Ao14, co14, eo14⟩ := Kd.R_slice HO_8.out
     subst eo14
     try go_wp2
     have n0_ := zA (zG HO_8.out)
     have n1_ := zA (zG HO_162004.out)
     have n2_ := zA (zG HO_162006.out)
     have n3_ := zA (zN BK161.out)
     have n4_ := zA (Kept.drew HK.out)
     have n5_ := zA (zQ HB.out)
     clear HO_8
     clear HO_162004
     clear HO_162006
     clear BK161
     clear HK
     clear HB
     have HO_8 := n0_
     have HO_162004 := n1_
     have HO_162006 := n2_
     have BK161 := n3_
     have HK := n4_
     have HB := n5_
     clear n0_ n1_ n2_ n3_ n4_ n5_
     refine start_ (n := 16) (S := fun w' => True) (ds := []) #[false, false, false, false, false, false, false, false, false, false, false, false, false, false, false, false] (by kernel_rfl) rfl rfl trivial (fun hHeld => ?_); refine with_tabW spec_l11Run_stand.tab5 spec_l11Run_stand.bits5 (fun HT_ HW_ => ?_)
     generalize wr.drew = w15 at HO_8 HO_162004 HO_162006 BK161 HK HB hHeld ⊢
     refine pure_ (i := 0) (N := some 29) (v := ?_) (a' := ?_) #[true, false, false, false, false, false, false, false, false, false, false, false, false, false, false, false] rfl rfl (any_of HT_.out (by kernel_rfl)) (fun _ _ _ h => h) (Or.inl ⟨by rfl, ?_⟩) ?_ ?_
     rotate_left
     ·intro w'
      go_simp
      with_reducible rfl
     rotate_left
     ·simp only [Act.put, zB, zC, zD, i64_w, i32_w]
      rfl
     refine pure_ (i := 1) (N := some 30) (v := ?_) (a' := ?_) #[true, true, false, false, false, false, false, false, false, false, false, false, false, false, false, false] rfl rfl (any_of HT_.out (by kernel_rfl)) (fun _ _ _ h => h) (Or.inl ⟨by rfl, ?_⟩) ?_ ?_
     rotate_left
     ·intro w'
      go_simp
      with_reducible rfl
     rotate_left
     ·simp only [Act.put, zB, zC, zD, i64_w, i32_w]
      rfl
     refine pure_ (i := 2) (N := some 31) (v := undef) (a' := ?_) #[true, true, true, false, false, false, false, false, false, false, false, false, false, false, false, false] rfl rfl (any_of HT_.out (by kernel_rfl)) (fun _ _ _ h => h) (Or.inr ⟨by rfl, rfl⟩) ?_ ?_
     rotate_left
     ·simp only [Act.put, zB, zC, zD, i64_w, i32_w]
      rfl
     refine pure_ (i := 3) (N := some 32) (v := undef) (a' := ?_) #[true, true, true, true, false, false, false, false, false, false, false, false, false, false, false, false] rfl rfl (any_of HT_.out (by kernel_rfl)) (fun _ _ _ h => h) (Or.inr ⟨by rfl, rfl⟩) ?_ ?_
     rotate_left
     ·simp only [Act.put, zB, zC, zD, i64_w, i32_w]
      rfl
     refine pure_ (i := 4) (N := some 33) (v := undef) (a' := ?_) #[true, true, true, true, true, false, false, false, false, false, false, false, false, false, false, false] rfl rfl (any_of HT_.out (by kernel_rfl)) (fun _ _ _ h => h) (Or.inr ⟨by rfl, rfl⟩) ?_ ?_
     rotate_left
     ·simp only [Act.put, zB, zC, zD, i64_w, i32_w]
      rfl
     refine pure_ (i := 5) (N := some 34) (v := undef) (a' := ?_) #[true, true, true, true, true, true, false, false, false, false, false, false, false, false, false, false] rfl rfl (any_of HT_.out (by kernel_rfl)) (fun _ _ _ h => h) (Or.inr ⟨by rfl, rfl⟩) ?_ ?_
     rotate_left
     ·simp only [Act.put, zB, zC, zD, i64_w, i32_w]
      rfl
     refine pure_ (i := 6) (N := some 35) (v := undef) (a' := ?_) #[true, true, true, true, true, true, true, false, false, false, false, false, false, false, false, false] rfl rfl (any_of HT_.out (by kernel_rfl)) (fun _ _ _ h => h) (Or.inr ⟨by rfl, rfl⟩) ?_ ?_
     rotate_left
     ·simp only [Act.put, zB, zC, zD, i64_w, i32_w]
      rfl
     refine pure_ (i := 7) (N := some 36) (v := undef) (a' := ?_) #[true, true, true, true, true, true, true, true, false, false, false, false, false, false, false, false] rfl rfl (any_of HT_.out (by kernel_rfl)) (fun _ _ _ h => h) (Or.inr ⟨by rfl, rfl⟩) ?_ ?_
     rotate_left
     ·simp only [Act.put, zB, zC, zD, i64_w, i32_w]
      rfl
     refine pure_ (i := 8) (N := some 37) (v := undef) (a' := ?_) #[true, true, true, true, true, true, true, true, true, false, false, false, false, false, false, false] rfl rfl (any_of HT_.out (by kernel_rfl)) (fun _ _ _ h => h) (Or.inr ⟨by rfl, rfl⟩) ?_ ?_
     rotate_left
     ·simp only [Act.put, zB, zC, zD, i64_w, i32_w]
      rfl
     refine pure_ (i := 9) (N := some 38) (v := undef) (a' := ?_) #[true, true, true, true, true, true, true, true, true, true, false, false, false, false, false, false] rfl rfl (any_of HT_.out (by kernel_rfl)) (fun _ _ _ h => h) (Or.inr ⟨by rfl, rfl⟩) ?_ ?_
     rotate_left
     ·simp only [Act.put, zB, zC, zD, i64_w, i32_w]
      rfl
     refine pure_ (i := 10) (N := some 39) (v := undef) (a' := ?_) #[true, true, true, true, true, true, true, true, true, true, true, false, false, false, false, false] rfl rfl (any_of HT_.out (by kernel_rfl)) (fun _ _ _ h => h) (Or.inr ⟨by rfl, rfl⟩) ?_ ?_
     rotate_left
     ·simp only [Act.put, zB, zC, zD, i64_w, i32_w]
      rfl
     refine pure_ (i := 11) (N := some 40) (v := undef) (a' := ?_) #[true, true, true, true, true, true, true, true, true, true, true, true, false, false, false, false] rfl rfl (any_of HT_.out (by kernel_rfl)) (fun _ _ _ h => h) (Or.inr ⟨by rfl, rfl⟩) ?_ ?_
     rotate_left
     ·simp only [Act.put, zB, zC, zD, i64_w, i32_w]
      rfl
     refine pure_ (i := 12) (N := some 41) (v := undef) (a' := ?_) #[true, true, true, true, true, true, true, true, true, true, true, true, true, false, false, false] rfl rfl (any_of HT_.out (by kernel_rfl)) (fun _ _ _ h => h) (Or.inr ⟨by rfl, rfl⟩) ?_ ?_
     rotate_left
     ·simp only [Act.put, zB, zC, zD, i64_w, i32_w]
      rfl
     refine pure_ (i := 13) (N := some 42) (v := undef) (a' := ?_) #[true, true, true, true, true, true, true, true, true, true, true, true, true, true, false, false] rfl rfl (any_of HT_.out (by kernel_rfl)) (fun _ _ _ h => h) (Or.inr ⟨by rfl, rfl⟩) ?_ ?_
     rotate_left
     ·simp only [Act.put, zB, zC, zD, i64_w, i32_w]
      rfl
     refine pure_ (i := 14) (N := some 43) (v := ?_) (a' := ?_) #[true, true, true, true, true, true, true, true, true, true, true, true, true, true, true, false] rfl rfl (any_of HT_.out (by kernel_rfl)) (fun _ _ _ h => h) (Or.inl ⟨by rfl, ?_⟩) ?_ ?_
     rotate_left
     ·intro w'
      go_simp
      with_reducible rfl
     rotate_left
     ·simp only [Act.put, zB, zC, zD, i64_w, i32_w]
      rfl
     refine pure_ (i := 15) (N := some 9) (v := ?_) (a' := ?_) #[true, true, true, true, true, true, true, true, true, true, true, true, true, true, true, true] rfl rfl (any_of HT_.out (by kernel_rfl)) (fun _ _ _ h => h) (Or.inl ⟨by rfl, ?_⟩) ?_ ?_
     rotate_left
     ·intro w'
      go_simp
      with_reducible rfl
     rotate_left
     ·simp only [Act.put, zB, zC, zD, i64_w, i32_w]
      rfl
     refine done_ (done_of HT_.out (by kernel_rfl)) ?_
     try go_wp2
     go_roundg k1
     case measure => have := HK1.out; omega
     case rel => exact ⟨(true), (wrap64 (x10_1 + 1)), (by first | rfl | (simp; done) | (simp [*]; done)), (by first | rfl | (simp; done) | (simp [*]; done)), H', ⟨by have := HK1.out; omega⟩, ⟨bC_ HO_8⟩, ⟨bC_ HO_162004⟩, ⟨bC_ HO_162006⟩, ⟨bA_ BK161⟩, ⟨by repeat (first | (with_reducible first | exact HK.out | apply Kept.alloc | apply Kept.drewN | apply Kept.drew | refine Kept.setCell ?_ (.inl (.inl hgS)) _) | exact HK.out)⟩, ⟨bB_ HB⟩⟩
    ·replace c13 := Bool.eq_false_iff.mpr c13
     subst c13
     have H1 : (if 0 ≤ x10_1 then (if 0 ≤ (rd t162 x10_1) then (if (rd t162 x10_1) < (l4_4.length : Int) then (spec_l11Run_stand.l0 k1 a1 a2 a3 t162 (decide ((rd l4_4 (rd t162 x10_1)) > a3)) (wrap64 (x10_1 + 1)) a4_0 a4_1 l4_2 a4_3 l4_4 a4_5 l4_6) else (none)) else (none)) else (none)) = some (r1, r2, r3) := by rw [if_neg (show ¬ (false = true) by decide)] at H; exact H
     clear H
     have H := H1
     clear H1
     by_cases c16 : 0 ≤ x10_1
     ·rw [if_pos c16] at H
      have c16b0 : decide (0 ≤ x10_1) = true := decide_eq_true c16
      clear c16
      by_cases c17 : 0 ≤ (rd t162 x10_1)
      ·rw [if_pos c17] at H
       have c17b0 : decide (0 ≤ (rd t162 x10_1)) = true := decide_eq_true c17
       clear c17
       by_cases c18 : (rd t162 x10_1) < (l4_4.length : Int)
       ·rw [if_pos c18] at H
        have c18b0 : decide ((rd t162 x10_1) < (l4_4.length : Int)) = true := decide_eq_true c18
        clear c18
        have H' := zA H
        clear H
        obtain ⟨Ao19, co19, eo19⟩ := Kd.R_slice HO_8.out
        subst eo19
        try go_wp2
        have n0_ := zA (zG HO_8.out)
        have n1_ := zA (zG HO_162004.out)
        have n2_ := zA (zG HO_162006.out)
        have n3_ := zA (zN BK161.out)
        have n4_ := zA (Kept.drew HK.out)
        have n5_ := zA (zQ HB.out)
        clear HO_8
        clear HO_162004
        clear HO_162006
        clear BK161
        clear HK
        clear HB
        have HO_8 := n0_
        have HO_162004 := n1_
        have HO_162006 := n2_
        have BK161 := n3_
        have HK := n4_
        have HB := n5_
        clear n0_ n1_ n2_ n3_ n4_ n5_
        have p165 : 0 ≤ (x10_1 : Int) := of_decide_eq_true (by first | (with_reducible assumption) | assumption)
        have q165 : x10_1 < (t162.length : Int) := of_decide_eq_true (by first | (with_reducible assumption) | assumption)
        obtain ⟨ad165, e165, hx165_0⟩ := Kd.at_int (zK HO_8.out).2.2 x10_1 p165 q165
        cases e165
        replace p165 := eq_true p165
        replace q165 := eq_true q165
        have p166 : 0 ≤ ((rd t162 x10_1) : Int) := of_decide_eq_true (by first | (with_reducible assumption) | assumption)
        have q166 : (rd t162 x10_1) < (l4_4.length : Int) := of_decide_eq_true (by first | (with_reducible assumption) | assumption)
        obtain ⟨ad166, e166, hx166_0⟩ := Kd.at_int (zK HO_162004.out).2.2 (rd t162 x10_1) p166 q166
        cases e166
        replace p166 := eq_true p166
        replace q166 := eq_true q166
        refine start_ (n := 16) (S := fun w' => w'.cell? ⟨gb161, 0, none⟩ = some (.int .i64 a4_0) ∧ w'.cell? ⟨gb161, 1, none⟩ = some (.int .i64 a4_1) ∧ w'.cell? ⟨gb161, 2, none⟩ = some (.slice A4_2 l4_2.length c4_2) ∧ w'.cell? ⟨gb161, 3, none⟩ = some (.int .i64 a4_3) ∧ w'.cell? ⟨gb161, 4, none⟩ = some (.slice (some ad166) l4_4.length co7) ∧ w'.cell? ⟨gb161, 5, none⟩ = some (.int .i64 a4_5) ∧ w'.cell? ⟨gb161, 6, none⟩ = some (.slice Ao8 l4_6.length co8) ∧ w'.cell? (ad165.add (x10_1).toNat) = some (.int .i64 (rd t162 x10_1)) ∧ w'.cell? (ad166.add ((rd t162 x10_1)).toNat) = some (.int .i64 (rd l4_4 (rd t162 x10_1)))) (ds := []) #[false, false, false, false, false, false, false, false, false, false, false, false, false, false, false, false] (by kernel_rfl) rfl rfl ⟨(blk_cell BK161.out 0).trans rfl, (blk_cell BK161.out 1).trans rfl, (blk_cell BK161.out 2).trans rfl, (blk_cell BK161.out 3).trans rfl, (blk_cell BK161.out 4).trans rfl, (blk_cell BK161.out 5).trans rfl, (blk_cell BK161.out 6).trans rfl, hx165_0, hx166_0⟩ (fun hHeld => ?_); refine with_tabW spec_l11Run_stand.tab5 spec_l11Run_stand.bits5 (fun HT_ HW_ => ?_)
        generalize wr.drew = w20 at HO_8 HO_162004 HO_162006 BK161 HK HB hx165_0 hx166_0 hHeld ⊢
        refine pure_ (i := 0) (N := some 29) (v := ?_) (a' := ?_) #[true, false, false, false, false, false, false, false, false, false, false, false, false, false, false, false] rfl rfl (any_of HT_.out (by kernel_rfl)) (fun _ _ _ h => h) (Or.inl ⟨by rfl, ?_⟩) ?_ ?_
        rotate_left
        ·intro w'
         go_simp
         with_reducible rfl
        rotate_left
        ·simp only [Act.put, zB, zC, zD, i64_w, i32_w]
         rfl
        refine pure_ (i := 1) (N := some 30) (v := ?_) (a' := ?_) #[true, true, false, false, false, false, false, false, false, false, false, false, false, false, false, false] rfl rfl (any_of HT_.out (by kernel_rfl)) (fun _ _ _ h => h) (Or.inl ⟨by rfl, ?_⟩) ?_ ?_
        rotate_left
        ·intro w'
         go_simp
         with_reducible rfl
        rotate_left
        ·simp only [Act.put, zB, zC, zD, i64_w, i32_w]
         rfl
        refine pure_ (i := 2) (N := some 31) (v := ?_) (a' := ?_) #[true, true, true, false, false, false, false, false, false, false, false, false, false, false, false, false] rfl rfl (any_of HT_.out (by kernel_rfl)) (fun _ _ _ h => h) (Or.inl ⟨by rfl, ?_⟩) ?_ ?_
        rotate_left
        ·intro w'
         go_simp
         with_reducible rfl
        rotate_left
        ·simp only [Act.put, zB, zC, zD, i64_w, i32_w]
         rfl
        refine pure_ (i := 3) (N := some 32) (v := ?_) (a' := ?_) #[true, true, true, true, false, false, false, false, false, false, false, false, false, false, false, false] rfl rfl (any_of HT_.out (by kernel_rfl)) (fun _ _ _ h => h) (Or.inl ⟨by rfl, ?_⟩) ?_ ?_
        rotate_left
        ·intro w'
         go_simp
         with_reducible rfl
        rotate_left
        ·simp only [Act.put, zB, zC, zD, i64_w, i32_w]
         rfl
        refine pure_ (i := 4) (N := some 33) (v := ?_) (a' := ?_) #[true, true, true, true, true, false, false, false, false, false, false, false, false, false, false, false] rfl rfl (any_of HT_.out (by kernel_rfl)) (fun _ _ _ h => h) (Or.inl ⟨by rfl, ?_⟩) ?_ ?_
        rotate_left
        ·intro w'
         go_simp
         with_reducible rfl
        rotate_left
        ·simp only [Act.put, zB, zC, zD, i64_w, i32_w]
         rfl
        refine pure_ (i := 6) (N := some 35) (v := ?_) (a' := ?_) #[true, true, true, true, true, false, true, false, false, false, false, false, false, false, false, false] rfl rfl (any_of HT_.out (by kernel_rfl)) (fun _ _ _ h => h) (Or.inl ⟨by rfl, ?_⟩) ?_ ?_
        rotate_left
        ·intro w'
         go_simp
         with_reducible rfl
        rotate_left
        ·simp only [Act.put, zB, zC, zD, i64_w, i32_w]
         rfl
        refine pure_ (i := 7) (N := some 36) (v := ?_) (a' := ?_) #[true, true, true, true, true, false, true, true, false, false, false, false, false, false, false, false] rfl rfl (any_of HT_.out (by kernel_rfl)) (fun _ _ _ h => h) (Or.inl ⟨by rfl, ?_⟩) ?_ ?_
        rotate_left
        ·intro w'
         go_simp
         with_reducible rfl
        rotate_left
        ·simp only [Act.put, zB, zC, zD, i64_w, i32_w]
         rfl
        refine pure_ (i := 8) (N := some 37) (v := ?_) (a' := ?_) #[true, true, true, true, true, false, true, true, true, false, false, false, false, false, false, false] rfl rfl (any_of HT_.out (by kernel_rfl)) (fun _ _ _ h => h) (Or.inl ⟨by rfl, ?_⟩) ?_ ?_
        rotate_left
        ·intro w'
         go_simp
         with_reducible rfl
        rotate_left
        ·simp only [Act.put, zB, zC, zD, i64_w, i32_w]
         rfl
        refine pure_ (i := 12) (N := some 41) (v := ?_) (a' := ?_) #[true, true, true, true, true, false, true, true, true, false, false, false, true, false, false, false] rfl rfl (any_of HT_.out (by kernel_rfl)) (fun _ _ _ h => h) (Or.inl ⟨by rfl, ?_⟩) ?_ ?_
        rotate_left
        ·intro w'
         go_simp
         with_reducible rfl
        rotate_left
        ·simp only [Act.put, zB, zC, zD, i64_w, i32_w]
         rfl
        refine take_ (i := 5) (N := some 34) (v := ?_) (a' := ?_) #[true, true, true, true, true, true, true, true, true, false, false, false, true, false, false, false] rfl rfl (take_ofW HT_.out HW_.out (by kernel_rfl)) (fun _ _ _ h => h) (Or.inl ⟨by rfl, ?_⟩) hHeld ?_ ?_
        rotate_left
        ·rintro w' ⟨s0, s1, s2, s3, s4, s5, s6, s7, s8⟩
         go_simp
         with_reducible rfl
        rotate_left
        ·simp only [Act.put, zB, zC, zD, i64_w, i32_w]
         rfl
        refine take_ (i := 9) (N := some 38) (v := ?_) (a' := ?_) #[true, true, true, true, true, true, true, true, true, true, false, false, true, false, false, false] rfl rfl (take_ofW HT_.out HW_.out (by kernel_rfl)) (fun _ _ _ h => h) (Or.inl ⟨by rfl, ?_⟩) hHeld ?_ ?_
        rotate_left
        ·rintro w' ⟨s0, s1, s2, s3, s4, s5, s6, s7, s8⟩
         go_simp
         with_reducible rfl
        rotate_left
        ·simp only [Act.put, zB, zC, zD, i64_w, i32_w]
         rfl
        refine pure_ (i := 10) (N := some 39) (v := ?_) (a' := ?_) #[true, true, true, true, true, true, true, true, true, true, true, false, true, false, false, false] rfl rfl (any_of HT_.out (by kernel_rfl)) (fun _ _ _ h => h) (Or.inl ⟨by rfl, ?_⟩) ?_ ?_
        rotate_left
        ·intro w'
         go_simp
         with_reducible rfl
        rotate_left
        ·simp only [Act.put, zB, zC, zD, i64_w, i32_w]
         rfl
        refine take_ (i := 11) (N := some 40) (v := ?_) (a' := ?_) #[true, true, true, true, true, true, true, true, true, true, true, true, true, false, false, false] rfl rfl (take_ofW HT_.out HW_.out (by kernel_rfl)) (fun _ _ _ h => h) (Or.inl ⟨by rfl, ?_⟩) hHeld ?_ ?_
        rotate_left
        ·rintro w' ⟨s0, s1, s2, s3, s4, s5, s6, s7, s8⟩
         go_simp
         with_reducible rfl
        rotate_left
        ·simp only [Act.put, zB, zC, zD, i64_w, i32_w]
         rfl
        refine pure_ (i := 13) (N := some 42) (v := ?_) (a' := ?_) #[true, true, true, true, true, true, true, true, true, true, true, true, true, true, false, false] rfl rfl (any_of HT_.out (by kernel_rfl)) (fun _ _ _ h => h) (Or.inl ⟨by rfl, ?_⟩) ?_ ?_
        rotate_left
        ·intro w'
         go_simp
         with_reducible rfl
        rotate_left
        ·simp only [Act.put, zB, zC, zD, i64_w, i32_w]
         rfl
        refine pure_ (i := 14) (N := some 43) (v := ?_) (a' := ?_) #[true, true, true, true, true, true, true, true, true, true, true, true, true, true, true, false] rfl rfl (any_of HT_.out (by kernel_rfl)) (fun _ _ _ h => h) (Or.inl ⟨by rfl, ?_⟩) ?_ ?_
        rotate_left
        ·intro w'
         go_simp
         with_reducible rfl
        rotate_left
        ·simp only [Act.put, zB, zC, zD, i64_w, i32_w]
         rfl
        refine pure_ (i := 15) (N := some 9) (v := ?_) (a' := ?_) #[true, true, true, true, true, true, true, true, true, true, true, true, true, true, true, true] rfl rfl (any_of HT_.out (by kernel_rfl)) (fun _ _ _ h => h) (Or.inl ⟨by rfl, ?_⟩) ?_ ?_
        rotate_left
        ·intro w'
         go_simp
         with_reducible rfl
        rotate_left
        ·simp only [Act.put, zB, zC, zD, i64_w, i32_w]
         rfl
        refine done_ (done_of HT_.out (by kernel_rfl)) ?_
        try go_wp2
        go_roundg k1
        case measure => have := HK1.out; omega
        case rel => exact ⟨(decide ((rd l4_4 (rd t162 x10_1)) > a3)), (wrap64 (x10_1 + 1)), (by first | rfl | (simp; done) | (simp [*]; done)), (by first | rfl | (simp; done) | (simp [*]; done)), H', ⟨by have := HK1.out; omega⟩, ⟨bC_ HO_8⟩, ⟨bC_ HO_162004⟩, ⟨bC_ HO_162006⟩, ⟨bA_ BK161⟩, ⟨by repeat (first | (with_reducible first | exact HK.out | apply Kept.alloc | apply Kept.drewN | apply Kept.drew | refine Kept.setCell ?_ (.inl (.inl hgS)) _) | exact HK.out)⟩, ⟨bB_ HB⟩⟩
       ·rw [if_neg c18] at H
        exact absurd H (by simp)
      ·rw [if_neg c17] at H
       exact absurd H (by simp)
     ·rw [if_neg c16] at H
      exact absurd H (by simp)
   ·rw [if_neg c12] at H
    have c12b0 : decide (x10_1 < (t162.length : Int)) = false := decide_eq_false c12
    clear c12
    have HC21 := zA H
    clear H
    obtain ⟨Ao22, co22, eo22⟩ := Kd.R_slice HO_8.out
    subst eo22
    go_upto_region 6 with (fail)
    go_cut [53] (fun v53 wc => ∃ (kq : Nat) (x53_20 : Bool), v53 = .bool x53_20 ∧ Aside0 (spec_l11Run_stand.j1 kq a1 a2 a3 t162 x53_20 a4_0 a4_1 l4_2 a4_3 l4_4 a4_5 l4_6 = some (r1, r2, r3)) ∧ Aside0 (kq ≤ k1) ∧ Aside0 (Kd.R (Kd.int .i64) 3 wc w0.heap.size (fun k_ => ((P4_4_ k_ ∨ P4_6_ k_) ∨ w.heap.size ≤ k_) ∧ some k_ ≠ ((.slice Ao7 l4_4.length co7) : Value).ownBlock) (.slice Ao22 t162.length co22) t162) ∧ Aside0 (Kd.R (Kd.int .i64) 3 wc w0.heap.size (fun k_ => ((P4_4_ k_ ∨ P4_6_ k_) ∨ w.heap.size ≤ k_) ∧ some k_ ≠ ((.slice Ao22 t162.length co22) : Value).ownBlock) (.slice Ao7 l4_4.length co7) l4_4) ∧ Aside0 (Kd.R k61 61 wc w0.heap.size (fun k_ => ((P4_4_ k_ ∨ P4_6_ k_) ∨ w.heap.size ≤ k_)) (.slice Ao8 l4_6.length co8) l4_6) ∧ Aside0 (wc.heap[gb161]? = some (.cells #[.int .i64 a4_0, .int .i64 a4_1, (.slice A4_2 l4_2.length c4_2), .int .i64 a4_3, (.slice Ao7 l4_4.length co7), .int .i64 a4_5, (.slice Ao8 l4_6.length co8)] 78 (0, 0))) ∧ Aside0 (Kept w wc (fun k_ => P4_4_ k_ ∨ P4_6_ k_)) ∧ Aside0 (Below w0.heap.size w0 wc))
    case first =>
     have H := HC21.out
     clear HC21
     by_cases c23 : x9_1 = true
     ·subst c23
      have H1 : (spec_l11Run_stand.j1 k1 a1 a2 a3 t162 (decide ((l4_6.length : Int) > 2000)) a4_0 a4_1 l4_2 a4_3 l4_4 a4_5 l4_6) = some (r1, r2, r3) := by rw [if_pos rfl] at H; exact H
      clear H
      have H := H1
      clear H1
      have H' := zA H
      clear H
      have hcz24_0 : wr.cell? ⟨gb161, 0, none⟩ = some (.int .i64 a4_0) := (blk_cell BK161.out 0).trans rfl
      have hcz24_1 : wr.cell? ⟨gb161, 1, none⟩ = some (.int .i64 a4_1) := (blk_cell BK161.out 1).trans rfl
      have hcz24_2 : wr.cell? ⟨gb161, 2, none⟩ = some (.slice A4_2 l4_2.length c4_2) := (blk_cell BK161.out 2).trans rfl
      have hcz24_3 : wr.cell? ⟨gb161, 3, none⟩ = some (.int .i64 a4_3) := (blk_cell BK161.out 3).trans rfl
      have hcz24_4 : wr.cell? ⟨gb161, 4, none⟩ = some (.slice Ao7 l4_4.length co7) := (blk_cell BK161.out 4).trans rfl
      have hcz24_5 : wr.cell? ⟨gb161, 5, none⟩ = some (.int .i64 a4_5) := (blk_cell BK161.out 5).trans rfl
      have hcz24_6 : wr.cell? ⟨gb161, 6, none⟩ = some (.slice Ao8 l4_6.length co8) := (blk_cell BK161.out 6).trans rfl
      have hfz24_0 := blk_frozen BK161.out 0
      have hfz24_1 := blk_frozen BK161.out 1
      have hfz24_2 := blk_frozen BK161.out 2
      have hfz24_3 := blk_frozen BK161.out 3
      have hfz24_4 := blk_frozen BK161.out 4
      have hfz24_5 := blk_frozen BK161.out 5
      have hfz24_6 := blk_frozen BK161.out 6
      go_wp2
      go_meet
      case rel => exact ⟨_, (decide ((l4_6.length : Int) > 2000)), (by first | rfl | (simp; done) | (simp [*]; done)), H', ⟨by have := HK1.out; first | omega | exact Nat.le_refl _⟩, ⟨bC_ HO_8⟩, ⟨bC_ HO_162004⟩, ⟨bC_ HO_162006⟩, ⟨bA_ BK161⟩, ⟨by repeat (first | (with_reducible first | exact HK.out | apply Kept.alloc | apply Kept.drewN | apply Kept.drew | refine Kept.setCell ?_ (.inl (.inl hgS)) _) | exact HK.out)⟩, ⟨bB_ HB⟩⟩
     ·replace c23 := Bool.eq_false_iff.mpr c23
      subst c23
      have H1 : (spec_l11Run_stand.j1 k1 a1 a2 a3 t162 true a4_0 a4_1 l4_2 a4_3 l4_4 a4_5 l4_6) = some (r1, r2, r3) := by rw [if_neg (show ¬ (false = true) by decide)] at H; exact H
      clear H
      have H := H1
      clear H1
      have H' := zA H
      clear H
      go_wp2
      go_meet
      case rel => exact ⟨_, (true), (by first | rfl | (simp; done) | (simp [*]; done)), H', ⟨by have := HK1.out; first | omega | exact Nat.le_refl _⟩, ⟨bC_ HO_8⟩, ⟨bC_ HO_162004⟩, ⟨bC_ HO_162006⟩, ⟨bA_ BK161⟩, ⟨by repeat (first | (with_reducible first | exact HK.out | apply Kept.alloc | apply Kept.drewN | apply Kept.drew | refine Kept.setCell ?_ (.inl (.inl hgS)) _) | exact HK.out)⟩, ⟨bB_ HB⟩⟩
    case rest =>
     clear HC21
     try clear c1
     try clear p1
     try clear q1
     try clear hx1
     try clear c2
     try clear p2
     try clear c4
     try clear c5
     try clear p6
     try clear c12
     try clear c12b0
     try clear c13
     try clear c16
     try clear c16b0
     try clear p16
     try clear q16
     try clear hx16
     try clear c17
     try clear c17b0
     try clear c18
     try clear c18b0
     try clear c23
     try clear hcz24_0
     try clear hcz24_1
     try clear hcz24_2
     try clear hcz24_3
     try clear hcz24_4
     try clear hcz24_5
     try clear hcz24_6
     try clear hfz24_0
     try clear hfz24_1
     try clear hfz24_2
     try clear hfz24_3
     try clear hfz24_4
     try clear hfz24_5
     try clear hfz24_6
     try clear hx165_0
     try clear hx166_0
     try clear p165
     try clear p166
     try clear p2
     try clear q165
     try clear q166
     obtain ⟨kq, x53_20, rfl, HA, HJ20, HO_8, HO_162004, HO_162006, BK161, HK, HB⟩ := hcut
     cases kq with
     | zero => exact absurd HA.out (by simp [spec_l11Run_stand.j1])
     | succ kj20 =>
      have H := HA.out
      clear HA
      simp only [spec_l11Run_stand.j1] at H
      by_cases c25 : x53_20 = true
      ·subst c25
       have H1 : (some (a4_5, l4_6, l4_4)) = some (r1, r2, r3) := by rw [if_pos rfl] at H; exact H
       clear H
       have H := H1
       clear H1
       simp only [Option.some.injEq, Prod.mk.injEq] at H
       obtain ⟨rfl, rfl, rfl⟩ := H
       have hcz26_0 : wc.cell? ⟨gb161, 0, none⟩ = some (.int .i64 a4_0) := (blk_cell BK161.out 0).trans rfl
       have hcz26_1 : wc.cell? ⟨gb161, 1, none⟩ = some (.int .i64 a4_1) := (blk_cell BK161.out 1).trans rfl
       have hcz26_2 : wc.cell? ⟨gb161, 2, none⟩ = some (.slice A4_2 l4_2.length c4_2) := (blk_cell BK161.out 2).trans rfl
       have hcz26_3 : wc.cell? ⟨gb161, 3, none⟩ = some (.int .i64 a4_3) := (blk_cell BK161.out 3).trans rfl
       have hcz26_4 : wc.cell? ⟨gb161, 4, none⟩ = some (.slice Ao7 l4_4.length co7) := (blk_cell BK161.out 4).trans rfl
       have hcz26_5 : wc.cell? ⟨gb161, 5, none⟩ = some (.int .i64 a4_5) := (blk_cell BK161.out 5).trans rfl
       have hcz26_6 : wc.cell? ⟨gb161, 6, none⟩ = some (.slice Ao8 l4_6.length co8) := (blk_cell BK161.out 6).trans rfl
       have hfz26_0 := blk_frozen BK161.out 0
       have hfz26_1 := blk_frozen BK161.out 1
       have hfz26_2 := blk_frozen BK161.out 2
       have hfz26_3 := blk_frozen BK161.out 3
       have hfz26_4 := blk_frozen BK161.out 4
       have hfz26_5 := blk_frozen BK161.out 5
       have hfz26_6 := blk_frozen BK161.out 6
       go_wp2
       first | go_end0 | ((try simp only [Exit.inBlock, Exit.then]); refine bodyPost_ret (results_none rfl _ _ _) rfl ?_) | (refine bodyPost_end (results_none rfl _ _ _) rfl ?_)
       exact ⟨_, by first | rfl | (simp [errW_none, errW_some] <;> rfl) | (simp [*, errW_none, errW_some] <;> rfl), (by first | ((with_reducible repeat (first | refine zM ?_ _ | refine zN ?_ | refine zO ?_ _)); exact BK161.out) | (simp only [Nat.add_zero]; (with_reducible repeat (first | refine zM ?_ _ | refine zN ?_ | refine zO ?_ _)); exact BK161.out)), bC_ HO_162006, by (with_reducible repeat (first | apply zF | apply zE | apply zG)); exact Kd.R_mono HO_162004.out (fun _ hk => hk.1), bB_ HB, by repeat (first | (with_reducible first | exact HK.out | apply Kept.alloc | apply Kept.drewN | apply Kept.drew | refine Kept.setCell ?_ (.inl (.inl hgS)) _) | exact HK.out)⟩
      ·replace c25 := Bool.eq_false_iff.mpr c25
       subst c25
       have H1 : (spec_l11Run_stand.l1 kj20 a1 a2 a3 t162 0 a4_0 a4_1 l4_2 a4_3 l4_4 a4_5 l4_6) = some (r1, r2, r3) := by rw [if_neg (show ¬ (false = true) by decide)] at H; exact H
       clear H
       have H := H1
       clear H1
       have H' := zA H
       clear H
       go_wp2
       go_loopg [11] kj20 (fun kq v11 w' => ∃ (x8_3 : List Int) (x11_3 : Int) (x162004_3 : List Int), v11 = .int .i64 x11_3 ∧ Aside0 (spec_l11Run_stand.l1 kq a1 a2 a3 x8_3 x11_3 a4_0 a4_1 l4_2 a4_3 x162004_3 a4_5 l4_6 = some (r1, r2, r3)) ∧ Aside0 (kq ≤ kj20) ∧ Aside0 (Kd.R (Kd.int .i64) 3 w' w0.heap.size (fun k_ => ((P4_4_ k_ ∨ P4_6_ k_) ∨ w.heap.size ≤ k_) ∧ some k_ ≠ ((.slice Ao7 l4_4.length co7) : Value).ownBlock) (.slice Ao22 t162.length co22) x8_3) ∧ Aside0 (Kd.R (Kd.int .i64) 3 w' w0.heap.size (fun k_ => ((P4_4_ k_ ∨ P4_6_ k_) ∨ w.heap.size ≤ k_) ∧ some k_ ≠ ((.slice Ao22 t162.length co22) : Value).ownBlock) (.slice Ao7 l4_4.length co7) x162004_3) ∧ Aside0 (Kd.R k61 61 w' w0.heap.size (fun k_ => ((P4_4_ k_ ∨ P4_6_ k_) ∨ w.heap.size ≤ k_)) (.slice Ao8 l4_6.length co8) l4_6) ∧ Aside0 (w'.heap[gb161]? = some (.cells #[.int .i64 a4_0, .int .i64 a4_1, (.slice A4_2 l4_2.length c4_2), .int .i64 a4_3, (.slice Ao7 l4_4.length co7), .int .i64 a4_5, (.slice Ao8 l4_6.length co8)] 78 (0, 0))) ∧ Aside0 (Kept w w' (fun k_ => P4_4_ k_ ∨ P4_6_ k_)) ∧ Aside0 (Below w0.heap.size w0 w'))
       case atStart => exact ⟨(t162), (0), (l4_4), (by first | rfl | (simp; done) | (simp [*]; done)), H', ⟨Nat.le_refl _⟩, ⟨bC_ HO_8⟩, ⟨bC_ HO_162004⟩, ⟨bC_ HO_162006⟩, ⟨bA_ BK161⟩, ⟨by repeat (first | (with_reducible first | exact HK.out | apply Kept.alloc | apply Kept.drewN | apply Kept.drew | refine Kept.setCell ?_ (.inl (.inl hgS)) _) | exact HK.out)⟩, ⟨bB_ HB⟩⟩
       case round =>
        clear H'
        try clear c1
        try clear p1
        try clear q1
        try clear hx1
        try clear c2
        try clear p2
        try clear c4
        try clear c5
        try clear p6
        try clear c12
        try clear c12b0
        try clear c13
        try clear c16
        try clear c16b0
        try clear p16
        try clear q16
        try clear hx16
        try clear c17
        try clear c17b0
        try clear c18
        try clear c18b0
        try clear c23
        try clear c25
        try clear hcz24_0
        try clear hcz24_1
        try clear hcz24_2
        try clear hcz24_3
        try clear hcz24_4
        try clear hcz24_5
        try clear hcz24_6
        try clear hcz26_0
        try clear hcz26_1
        try clear hcz26_2
        try clear hcz26_3
        try clear hcz26_4
        try clear hcz26_5
        try clear hcz26_6
        try clear hfz24_0
        try clear hfz24_1
        try clear hfz24_2
        try clear hfz24_3
        try clear hfz24_4
        try clear hfz24_5
        try clear hfz24_6
        try clear hfz26_0
        try clear hfz26_1
        try clear hfz26_2
        try clear hfz26_3
        try clear hfz26_4
        try clear hfz26_5
        try clear hfz26_6
        try clear hx165_0
        try clear hx166_0
        try clear p1
        try clear p16
        try clear p165
        try clear p166
        try clear p2
        try clear p6
        try clear q1
        try clear q16
        try clear q165
        try clear q166
        obtain ⟨x8_3, x11_3, x162004_3, rfl, HA, HK3, HO_8, HO_162004, HO_162006, BK161, HK, HB⟩ := hrel
        have hl8_3 := (zK HO_8.out).1
        rw [hl8_3] at HO_8
        (try simp only [hl8_3])
        (try simp only [hl8_3] at BK161)
        (try simp only [hl8_3] at HO_162004)
        (try simp only [hl8_3] at HO_162006)
        have hl162004_3 := (zK HO_162004.out).1
        rw [hl162004_3] at HO_162004
        (try simp only [hl162004_3])
        (try simp only [hl162004_3] at BK161)
        (try simp only [hl162004_3] at HO_8)
        (try simp only [hl162004_3] at HO_162006)
        cases gk with
        | zero => exact absurd HA.out (by simp [spec_l11Run_stand.l1])
        | succ k3 =>
         have H := HA.out
         clear HA
         simp only [spec_l11Run_stand.l1] at H
         by_cases c27 : x11_3 < (x8_3.length : Int)
         ·rw [if_pos c27] at H
          have c27b0 : decide (x11_3 < (x8_3.length : Int)) = true := decide_eq_true c27
          (try (have c27b0l := c27b0; rw [hl8_3] at c27b0l))
          (try (have c27b0l := c27b0; rw [hl162004_3] at c27b0l))
          clear c27
          by_cases c28 : 0 ≤ x11_3
          ·rw [if_pos c28] at H
           have c28b0 : decide (0 ≤ x11_3) = true := decide_eq_true c28
           clear c28
           by_cases c29 : 0 ≤ (rd x8_3 x11_3)
           ·rw [if_pos c29] at H
            have c29b0 : decide (0 ≤ (rd x8_3 x11_3)) = true := decide_eq_true c29
            clear c29
            by_cases c30 : (rd x8_3 x11_3) < (x162004_3.length : Int)
            ·rw [if_pos c30] at H
             have c30b0 : decide ((rd x8_3 x11_3) < (x162004_3.length : Int)) = true := decide_eq_true c30
             (try (have c30b0l := c30b0; rw [hl8_3] at c30b0l))
             (try (have c30b0l := c30b0; rw [hl162004_3] at c30b0l))
             clear c30
             obtain ⟨ji31, hji31⟩ : ∃ j_ : Int, (mn (rd x162004_3 (rd x8_3 x11_3)) a3) = j_ := ⟨_, rfl⟩
             replace H : (spec_l11Run_stand.l1 k3 a1 a2 a3 x8_3 (wrap64 (x11_3 + 1)) a4_0 a4_1 l4_2 a4_3 (x162004_3.set ((rd x8_3 x11_3) : Int).toNat (ji31)) a4_5 l4_6) = some (r1, r2, r3) := by first | (rw [hji31] at H; exact H) | (simp only [hji31] at H ⊢; exact H)
             have hji31_ : (if a3 < (rd x162004_3 (rd x8_3 x11_3)) then a3 else (rd x162004_3 (rd x8_3 x11_3))) = ji31 := hji31
             obtain ⟨y170, hy170⟩ : ∃ y_ : List Int, y_ = (x162004_3.set ((rd x8_3 x11_3) : Int).toNat (ji31)) := ⟨_, rfl⟩
             replace H : (spec_l11Run_stand.l1 k3 a1 a2 a3 x8_3 (wrap64 (x11_3 + 1)) a4_0 a4_1 l4_2 a4_3 y170 a4_5 l4_6) = some (r1, r2, r3) := by first | (rw [hy170]; with_reducible exact H) | (have H2_ := (Option.bind_some _ _).symm.trans H; rw [hy170]; with_reducible exact H2_) | (have H2_ := (Option.bind_some _ _).symm.trans H; with_reducible exact H2_) | with_reducible exact H | (rw [hy170]; exact H) | exact H
             have Ny170 := zA hy170
             clear hy170
             have H' := zA H
             clear H
             try go_wp2
             have n0_ := zA (zG HO_8.out)
             have n1_ := zA (zG HO_162004.out)
             have n2_ := zA (zG HO_162006.out)
             have n3_ := zA (zN BK161.out)
             have n4_ := zA (Kept.drew HK.out)
             have n5_ := zA (zQ HB.out)
             clear HO_8
             clear HO_162004
             clear HO_162006
             clear BK161
             clear HK
             clear HB
             have HO_8 := n0_
             have HO_162004 := n1_
             have HO_162006 := n2_
             have BK161 := n3_
             have HK := n4_
             have HB := n5_
             clear n0_ n1_ n2_ n3_ n4_ n5_
             have p167 : 0 ≤ (x11_3 : Int) := of_decide_eq_true (by first | (with_reducible assumption) | assumption)
             have q167 : x11_3 < (x8_3.length : Int) := of_decide_eq_true (by first | (with_reducible assumption) | assumption)
             obtain ⟨ad167, e167, hx167_0⟩ := Kd.at_int (zK HO_8.out).2.2 x11_3 p167 q167
             cases e167
             replace p167 := eq_true p167
             replace q167 := eq_true q167
             have p168 : 0 ≤ (x11_3 : Int) := of_decide_eq_true (by first | (with_reducible assumption) | assumption)
             have q168 : x11_3 < (x8_3.length : Int) := of_decide_eq_true (by first | (with_reducible assumption) | assumption)
             obtain ⟨ad168, e168, hx168_0⟩ := Kd.at_int (zK HO_8.out).2.2 x11_3 p168 q168
             obtain rfl : ad167 = ad168 := (by injection e168)
             replace p168 := eq_true p168
             replace q168 := eq_true q168
             have p169 : 0 ≤ ((rd x8_3 x11_3) : Int) := of_decide_eq_true (by first | (with_reducible assumption) | assumption)
             have q169 : (rd x8_3 x11_3) < (x162004_3.length : Int) := of_decide_eq_true (by first | (with_reducible assumption) | assumption)
             obtain ⟨ad169, e169, hx169_0⟩ := Kd.at_int (zK HO_162004.out).2.2 (rd x8_3 x11_3) p169 q169
             cases e169
             replace p169 := eq_true p169
             replace q169 := eq_true q169
             have p32 : 0 ≤ ((rd x8_3 x11_3) : Int) := of_decide_eq_true (by first | (with_reducible assumption) | assumption)
             have q32 : ((rd x8_3 x11_3) : Int) < ((x162004_3.length : Int) : Int) := of_decide_eq_true (by first | (with_reducible assumption) | assumption)
             obtain ⟨go32, co32, eo32, gb32, gl32, cl32, HG32⟩ := Kd.R_form HO_162004.out (by omega)
             (first | cases eo32 | (injection eo32 with ea_ en_ ec_; (first | subst ea_ | (injection ea_ with ea_; subst ea_)); subst ec_; clear en_))
             have GB32 := zA gb32
             have GG32 := zA HG32
             clear gb32 gl32 HG32
             have HMgo32 := zA (show ((P4_4_ go32 ∨ P4_6_ go32) ∨ w.heap.size ≤ go32) from (HO_162004.out.1 _ rfl).1)
             (first | simp only [add_plain] at hx169_0 | skip)
             obtain ⟨hx32_0, hf32_0⟩ := Kd.R_celln 0 HO_162004.out ((rd x8_3 x11_3) : Int) p32 q32
             replace p32 := eq_true p32
             replace q32 := eq_true q32
             have HP34 := Kd.R_putn HO_162004.out ((rd x8_3 x11_3) : Int) ji31
             rw [← Ny170.out] at HP34
             have HQ34 := zA HP34
             clear HP34
             refine start_ (n := 22) (S := fun w' => w'.cell? ⟨gb161, 0, none⟩ = some (.int .i64 a4_0) ∧ w'.cell? ⟨gb161, 1, none⟩ = some (.int .i64 a4_1) ∧ w'.cell? ⟨gb161, 2, none⟩ = some (.slice A4_2 l4_2.length c4_2) ∧ w'.cell? ⟨gb161, 3, none⟩ = some (.int .i64 a4_3) ∧ w'.cell? ⟨gb161, 4, none⟩ = some (.slice (some ⟨go32, 0, none⟩) x162004_3.length co7) ∧ w'.cell? ⟨gb161, 5, none⟩ = some (.int .i64 a4_5) ∧ w'.cell? ⟨gb161, 6, none⟩ = some (.slice Ao8 l4_6.length co8) ∧ w'.cell? (ad167.add (x11_3).toNat) = some (.int .i64 (rd x8_3 x11_3)) ∧ w'.cell? (ad167.add (x11_3).toNat) = some (.int .i64 (rd x8_3 x11_3)) ∧ w'.cell? ⟨go32, ((rd x8_3 x11_3)).toNat, none⟩ = some (.int .i64 (rd x162004_3 (rd x8_3 x11_3)))) (ds := [21]) #[false, false, false, false, false, false, false, false, false, false, false, false, false, false, false, false, false, false, false, false, false, false] (by kernel_rfl) rfl rfl ⟨(blk_cell BK161.out 0).trans rfl, (blk_cell BK161.out 1).trans rfl, (blk_cell BK161.out 2).trans rfl, (blk_cell BK161.out 3).trans rfl, (blk_cell BK161.out 4).trans rfl, (blk_cell BK161.out 5).trans rfl, (blk_cell BK161.out 6).trans rfl, hx167_0, hx168_0, hx169_0⟩ (fun hHeld => ?_); refine with_tabW spec_l11Run_stand.tab10 spec_l11Run_stand.bits10 (fun HT_ HW_ => ?_)
             generalize wr.drew = w33 at HO_8 HO_162004 HO_162006 BK161 HK HB GG32 HQ34 hf32_0 hx167_0 hx168_0 hx169_0 hx32_0 hHeld ⊢
             refine pure_ (i := 0) (N := some 60) (v := ?_) (a' := ?_) #[true, false, false, false, false, false, false, false, false, false, false, false, false, false, false, false, false, false, false, false, false, false] rfl rfl (any_of HT_.out (by kernel_rfl)) (fun _ _ _ h => h) (Or.inl ⟨by rfl, ?_⟩) ?_ ?_
             rotate_left
             ·intro w'
              go_simp
              with_reducible rfl
             rotate_left
             ·simp only [Act.put, zB, zC, zD, i64_w, i32_w]
              rfl
             refine pure_ (i := 1) (N := some 61) (v := ?_) (a' := ?_) #[true, true, false, false, false, false, false, false, false, false, false, false, false, false, false, false, false, false, false, false, false, false] rfl rfl (any_of HT_.out (by kernel_rfl)) (fun _ _ _ h => h) (Or.inl ⟨by rfl, ?_⟩) ?_ ?_
             rotate_left
             ·intro w'
              go_simp
              with_reducible rfl
             rotate_left
             ·simp only [Act.put, zB, zC, zD, i64_w, i32_w]
              rfl
             refine pure_ (i := 2) (N := some 62) (v := ?_) (a' := ?_) #[true, true, true, false, false, false, false, false, false, false, false, false, false, false, false, false, false, false, false, false, false, false] rfl rfl (any_of HT_.out (by kernel_rfl)) (fun _ _ _ h => h) (Or.inl ⟨by rfl, ?_⟩) ?_ ?_
             rotate_left
             ·intro w'
              go_simp
              with_reducible rfl
             rotate_left
             ·simp only [Act.put, zB, zC, zD, i64_w, i32_w]
              rfl
             refine pure_ (i := 4) (N := some 64) (v := ?_) (a' := ?_) #[true, true, true, false, true, false, false, false, false, false, false, false, false, false, false, false, false, false, false, false, false, false] rfl rfl (any_of HT_.out (by kernel_rfl)) (fun _ _ _ h => h) (Or.inl ⟨by rfl, ?_⟩) ?_ ?_
             rotate_left
             ·intro w'
              go_simp
              with_reducible rfl
             rotate_left
             ·simp only [Act.put, zB, zC, zD, i64_w, i32_w]
              rfl
             refine pure_ (i := 5) (N := some 65) (v := ?_) (a' := ?_) #[true, true, true, false, true, true, false, false, false, false, false, false, false, false, false, false, false, false, false, false, false, false] rfl rfl (any_of HT_.out (by kernel_rfl)) (fun _ _ _ h => h) (Or.inl ⟨by rfl, ?_⟩) ?_ ?_
             rotate_left
             ·intro w'
              go_simp
              with_reducible rfl
             rotate_left
             ·simp only [Act.put, zB, zC, zD, i64_w, i32_w]
              rfl
             refine pure_ (i := 6) (N := some 66) (v := ?_) (a' := ?_) #[true, true, true, false, true, true, true, false, false, false, false, false, false, false, false, false, false, false, false, false, false, false] rfl rfl (any_of HT_.out (by kernel_rfl)) (fun _ _ _ h => h) (Or.inl ⟨by rfl, ?_⟩) ?_ ?_
             rotate_left
             ·intro w'
              go_simp
              with_reducible rfl
             rotate_left
             ·simp only [Act.put, zB, zC, zD, i64_w, i32_w]
              rfl
             refine pure_ (i := 8) (N := some 68) (v := ?_) (a' := ?_) #[true, true, true, false, true, true, true, false, true, false, false, false, false, false, false, false, false, false, false, false, false, false] rfl rfl (any_of HT_.out (by kernel_rfl)) (fun _ _ _ h => h) (Or.inl ⟨by rfl, ?_⟩) ?_ ?_
             rotate_left
             ·intro w'
              go_simp
              with_reducible rfl
             rotate_left
             ·simp only [Act.put, zB, zC, zD, i64_w, i32_w]
              rfl
             refine pure_ (i := 9) (N := some 69) (v := ?_) (a' := ?_) #[true, true, true, false, true, true, true, false, true, true, false, false, false, false, false, false, false, false, false, false, false, false] rfl rfl (any_of HT_.out (by kernel_rfl)) (fun _ _ _ h => h) (Or.inl ⟨by rfl, ?_⟩) ?_ ?_
             rotate_left
             ·intro w'
              go_simp
              with_reducible rfl
             rotate_left
             ·simp only [Act.put, zB, zC, zD, i64_w, i32_w]
              rfl
             refine pure_ (i := 10) (N := some 70) (v := ?_) (a' := ?_) #[true, true, true, false, true, true, true, false, true, true, true, false, false, false, false, false, false, false, false, false, false, false] rfl rfl (any_of HT_.out (by kernel_rfl)) (fun _ _ _ h => h) (Or.inl ⟨by rfl, ?_⟩) ?_ ?_
             rotate_left
             ·intro w'
              go_simp
              with_reducible rfl
             rotate_left
             ·simp only [Act.put, zB, zC, zD, i64_w, i32_w]
              rfl
             refine pure_ (i := 12) (N := some 72) (v := ?_) (a' := ?_) #[true, true, true, false, true, true, true, false, true, true, true, false, true, false, false, false, false, false, false, false, false, false] rfl rfl (any_of HT_.out (by kernel_rfl)) (fun _ _ _ h => h) (Or.inl ⟨by rfl, ?_⟩) ?_ ?_
             rotate_left
             ·intro w'
              go_simp
              with_reducible rfl
             rotate_left
             ·simp only [Act.put, zB, zC, zD, i64_w, i32_w]
              rfl
             refine pure_ (i := 13) (N := some 73) (v := ?_) (a' := ?_) #[true, true, true, false, true, true, true, false, true, true, true, false, true, true, false, false, false, false, false, false, false, false] rfl rfl (any_of HT_.out (by kernel_rfl)) (fun _ _ _ h => h) (Or.inl ⟨by rfl, ?_⟩) ?_ ?_
             rotate_left
             ·intro w'
              go_simp
              with_reducible rfl
             rotate_left
             ·simp only [Act.put, zB, zC, zD, i64_w, i32_w]
              rfl
             refine pure_ (i := 14) (N := some 74) (v := ?_) (a' := ?_) #[true, true, true, false, true, true, true, false, true, true, true, false, true, true, true, false, false, false, false, false, false, false] rfl rfl (any_of HT_.out (by kernel_rfl)) (fun _ _ _ h => h) (Or.inl ⟨by rfl, ?_⟩) ?_ ?_
             rotate_left
             ·intro w'
              go_simp
              with_reducible rfl
             rotate_left
             ·simp only [Act.put, zB, zC, zD, i64_w, i32_w]
              rfl
             refine pure_ (i := 18) (N := some 78) (v := ?_) (a' := ?_) #[true, true, true, false, true, true, true, false, true, true, true, false, true, true, true, false, false, false, true, false, false, false] rfl rfl (any_of HT_.out (by kernel_rfl)) (fun _ _ _ h => h) (Or.inl ⟨by rfl, ?_⟩) ?_ ?_
             rotate_left
             ·intro w'
              go_simp
              with_reducible rfl
             rotate_left
             ·simp only [Act.put, zB, zC, zD, i64_w, i32_w]
              rfl
             refine take_ (i := 3) (N := some 63) (v := ?_) (a' := ?_) #[true, true, true, true, true, true, true, false, true, true, true, false, true, true, true, false, false, false, true, false, false, false] rfl rfl (take_ofW HT_.out HW_.out (by kernel_rfl)) (fun _ _ _ h => h) (Or.inl ⟨by rfl, ?_⟩) hHeld ?_ ?_
             rotate_left
             ·rintro w' ⟨s0, s1, s2, s3, s4, s5, s6, s7, s8, s9⟩
              go_simp
              with_reducible rfl
             rotate_left
             ·simp only [Act.put, zB, zC, zD, i64_w, i32_w]
              rfl
             refine take_ (i := 7) (N := some 67) (v := ?_) (a' := ?_) #[true, true, true, true, true, true, true, true, true, true, true, false, true, true, true, false, false, false, true, false, false, false] rfl rfl (take_ofW HT_.out HW_.out (by kernel_rfl)) (fun _ _ _ h => h) (Or.inl ⟨by rfl, ?_⟩) hHeld ?_ ?_
             rotate_left
             ·rintro w' ⟨s0, s1, s2, s3, s4, s5, s6, s7, s8, s9⟩
              go_simp
              with_reducible rfl
             rotate_left
             ·simp only [Act.put, zB, zC, zD, i64_w, i32_w]
              rfl
             refine take_ (i := 11) (N := some 71) (v := ?_) (a' := ?_) #[true, true, true, true, true, true, true, true, true, true, true, true, true, true, true, false, false, false, true, false, false, false] rfl rfl (take_ofW HT_.out HW_.out (by kernel_rfl)) (fun _ _ _ h => h) (Or.inl ⟨by rfl, ?_⟩) hHeld ?_ ?_
             rotate_left
             ·rintro w' ⟨s0, s1, s2, s3, s4, s5, s6, s7, s8, s9⟩
              go_simp
              with_reducible rfl
             rotate_left
             ·simp only [Act.put, zB, zC, zD, i64_w, i32_w]
              rfl
             refine take_ (i := 15) (N := some 75) (v := ?_) (a' := ?_) #[true, true, true, true, true, true, true, true, true, true, true, true, true, true, true, true, false, false, true, false, false, false] rfl rfl (take_ofW HT_.out HW_.out (by kernel_rfl)) (fun _ _ _ h => h) (Or.inl ⟨by rfl, ?_⟩) hHeld ?_ ?_
             rotate_left
             ·rintro w' ⟨s0, s1, s2, s3, s4, s5, s6, s7, s8, s9⟩
              go_simp
              with_reducible rfl
             rotate_left
             ·simp only [Act.put, zB, zC, zD, i64_w, i32_w]
              rfl
             refine pure_ (i := 16) (N := some 76) (v := ?_) (a' := ?_) #[true, true, true, true, true, true, true, true, true, true, true, true, true, true, true, true, true, false, true, false, false, false] rfl rfl (any_of HT_.out (by kernel_rfl)) (fun _ _ _ h => h) (Or.inl ⟨by rfl, ?_⟩) ?_ ?_
             rotate_left
             ·intro w'
              go_simp
              with_reducible rfl
             rotate_left
             ·simp only [Act.put, zB, zC, zD, i64_w, i32_w]
              rfl
             refine take_ (i := 17) (N := some 77) (v := ?_) (a' := ?_) #[true, true, true, true, true, true, true, true, true, true, true, true, true, true, true, true, true, true, true, false, false, false] rfl rfl (take_ofW HT_.out HW_.out (by kernel_rfl)) (fun _ _ _ h => h) (Or.inl ⟨by rfl, ?_⟩) hHeld ?_ ?_
             rotate_left
             ·rintro w' ⟨s0, s1, s2, s3, s4, s5, s6, s7, s8, s9⟩
              go_simp
              with_reducible rfl
             rotate_left
             ·simp only [Act.put, zB, zC, zD, i64_w, i32_w]
              rfl
             refine pure_ (i := 19) (N := some 79) (v := ?_) (a' := ?_) #[true, true, true, true, true, true, true, true, true, true, true, true, true, true, true, true, true, true, true, true, false, false] rfl rfl (any_of HT_.out (by kernel_rfl)) (fun _ _ _ h => h) (Or.inl ⟨by rfl, ?_⟩) ?_ ?_
             rotate_left
             ·intro w'
              go_simp
              with_reducible rfl
             rotate_left
             ·simp only [Act.put, zB, zC, zD, i64_w, i32_w]
              rfl
             refine pure_ (i := 20) (N := some 80) (v := ?_) (a' := ?_) #[true, true, true, true, true, true, true, true, true, true, true, true, true, true, true, true, true, true, true, true, true, false] rfl rfl (any_of HT_.out (by kernel_rfl)) (fun _ _ _ h => h) (Or.inl ⟨by rfl, ?_⟩) ?_ ?_
             rotate_left
             ·intro w'
              go_simp
              with_reducible rfl
             rotate_left
             ·simp only [Act.put, zB, zC, zD, i64_w, i32_w]
              rfl
             refine last_ (i := 21) (N := none) #[true, true, true, true, true, true, true, true, true, true, true, true, true, true, true, true, true, true, true, true, true, true] rfl rfl (one_of HT_.out (by kernel_rfl)) (by decide) (fun K hK => ?_)
             refine skip_ (w1 := ?_) (by rfl) rfl ?_ ?_
             rotate_left
             ·go_simp
              rfl
             refine hK.out _ _ ?_
             clear hK K
             refine done_ (done_of HT_.out (by kernel_rfl)) ?_
             try go_wp2
             (try simp only [← hl8_3, ← hl162004_3])
             go_roundg k3
             case measure => have := HK1.out; have := HJ20.out; have := HK3.out; omega
             case rel => exact ⟨(x8_3), (wrap64 (x11_3 + 1)), (y170), (by first | rfl | (simp; done) | (simp [*]; done)), H', ⟨by have := HK1.out; have := HJ20.out; have := HK3.out; omega⟩, ⟨by (try simp only [hl8_3]); (try simp only [hl162004_3]); (with_reducible repeat (first | apply zF | apply zE | apply zG)); exact Kd.R_mono (Kd.R_far (p := ⟨go32, ((rd x8_3 x11_3) : Int).toNat, none⟩) (Kd.R_mono HO_8.out (fun k_ hk => (⟨hk, fun e_ => hk.2 (by rw [e_]; rfl)⟩ : _ ∧ k_ ≠ go32))) (fun _ hk => hk.2) (.int .i64 ji31)) (fun _ hk => ⟨hk.1.1, hk.1.2⟩)⟩, ⟨by (try simp only [hl8_3]); (try simp only [hl162004_3]); (with_reducible repeat (first | apply zF | apply zE | apply zG)); exact HQ34.out⟩, ⟨by (try simp only [hl8_3]); (try simp only [hl162004_3]); (with_reducible repeat (first | apply zF | apply zE | apply zG)); exact Kd.R_mono (Kd.R_far (p := ⟨go32, ((rd x8_3 x11_3) : Int).toNat, none⟩) (Kd.R_types HO_162006.out GG32.out (by decide)) (fun _ hk => hk.2) (.int .i64 ji31)) (fun _ hk => hk.1)⟩, ⟨by (try simp only [hl8_3]); (try simp only [hl162004_3]); (with_reducible repeat (first | refine zM ?_ _ | refine zN ?_ | refine zO ?_ _)); refine blk_far ?_ (by have h_ := Kd.R_ne HO_162004.out BK161.out (by decide); intro e_; exact h_ (by rw [e_]; rfl)) _; (with_reducible repeat (first | refine zM ?_ _ | refine zN ?_ | refine zO ?_ _)); exact BK161.out⟩, ⟨by repeat (first | (with_reducible first | exact HK.out | apply Kept.alloc | apply Kept.drewN | apply Kept.drew | refine Kept.setCell ?_ HMgo32.out _ | refine Kept.setCell ?_ (.inl (.inl hgS)) _) | exact HK.out)⟩, ⟨by repeat (first | (with_reducible first | exact HB.out | apply below_alloc | apply pw_below_drewN | apply zQ | refine below_set ?_ GB32.out | refine below_set ?_ GE161.out) | exact HB.out)⟩⟩
            ·rw [if_neg c30] at H
             exact absurd H (by simp)
           ·rw [if_neg c29] at H
            exact absurd H (by simp)
          ·rw [if_neg c28] at H
           exact absurd H (by simp)
         ·rw [if_neg c27] at H
          have c27b0 : decide (x11_3 < (x8_3.length : Int)) = false := decide_eq_false c27
          (try (have c27b0l := c27b0; rw [hl8_3] at c27b0l))
          (try (have c27b0l := c27b0; rw [hl162004_3] at c27b0l))
          clear c27
          obtain ⟨y171, hy171⟩ : ∃ y_ : List (S61), y_ = (([(⟨true, a1, a4_5, 24⟩ : S61), (⟨true, a1, a2, 24⟩ : S61), (⟨false, a1, a2, a3⟩ : S61), (⟨true, a1, a2, 24⟩ : S61)] : List (S61))) := ⟨_, rfl⟩
          replace H : (if l4_6.length + y171.length < 4398046511104 then (some (a2, (l4_6 ++ y171), x162004_3)) else (none)) = some (r1, r2, r3) := by first | (rw [hy171]; with_reducible exact H) | (have H2_ := (Option.bind_some _ _).symm.trans H; rw [hy171]; with_reducible exact H2_) | (have H2_ := (Option.bind_some _ _).symm.trans H; with_reducible exact H2_) | with_reducible exact H | (rw [hy171]; exact H) | exact H
          have Ny171 := zA hy171
          clear hy171
          by_cases c35 : l4_6.length + y171.length < 4398046511104
          ·rw [if_pos c35] at H
           have LMc35 := zA c35
           clear c35
           obtain ⟨y174, hy174⟩ : ∃ y_ : List (S61), y_ = (l4_6 ++ y171) := ⟨_, rfl⟩
           replace H : (some (a2, y174, x162004_3)) = some (r1, r2, r3) := by first | (rw [hy174]; with_reducible exact H) | (have H2_ := (Option.bind_some _ _).symm.trans H; rw [hy174]; with_reducible exact H2_) | (have H2_ := (Option.bind_some _ _).symm.trans H; with_reducible exact H2_) | with_reducible exact H | (rw [hy174]; exact H) | exact H
           have Ny174 := zA hy174
           clear hy174
           simp only [Option.some.injEq, Prod.mk.injEq] at H
           obtain ⟨rfl, rfl, rfl⟩ := H
           try go_wp2
           have n0_ := zA (zG HO_8.out)
           have n1_ := zA (zG HO_162004.out)
           have n2_ := zA (zG HO_162006.out)
           have n3_ := zA (zN BK161.out)
           have n4_ := zA (Kept.drew HK.out)
           have n5_ := zA (zQ HB.out)
           clear HO_8
           clear HO_162004
           clear HO_162006
           clear BK161
           clear HK
           clear HB
           have HO_8 := n0_
           have HO_162004 := n1_
           have HO_162006 := n2_
           have BK161 := n3_
           have HK := n4_
           have HB := n5_
           clear n0_ n1_ n2_ n3_ n4_ n5_
           refine start_ (n := 26) (S := fun w' => w'.cell? ⟨gb161, 0, none⟩ = some (.int .i64 a4_0) ∧ w'.cell? ⟨gb161, 1, none⟩ = some (.int .i64 a4_1) ∧ w'.cell? ⟨gb161, 2, none⟩ = some (.slice A4_2 l4_2.length c4_2) ∧ w'.cell? ⟨gb161, 3, none⟩ = some (.int .i64 a4_3) ∧ w'.cell? ⟨gb161, 4, none⟩ = some (.slice Ao7 x162004_3.length co7) ∧ w'.cell? ⟨gb161, 5, none⟩ = some (.int .i64 a4_5) ∧ w'.cell? ⟨gb161, 6, none⟩ = some (.slice Ao8 l4_6.length co8)) (ds := [25]) #[false, false, false, false, false, false, false, false, false, false, false, false, false, false, false, false, false, false, false, false, false, false, false, false, false, false] (by kernel_rfl) rfl rfl ⟨(blk_cell BK161.out 0).trans rfl, (blk_cell BK161.out 1).trans rfl, (blk_cell BK161.out 2).trans rfl, (blk_cell BK161.out 3).trans rfl, (blk_cell BK161.out 4).trans rfl, (blk_cell BK161.out 5).trans rfl, (blk_cell BK161.out 6).trans rfl⟩ (fun hHeld => ?_); refine with_tabW spec_l11Run_stand.tab11 spec_l11Run_stand.bits11 (fun HT_ HW_ => ?_)
           generalize wr.drew = w36 at HO_8 HO_162004 HO_162006 BK161 HK HB hHeld ⊢
           refine pure_ (i := 0) (N := some 81) (v := ?_) (a' := ?_) #[true, false, false, false, false, false, false, false, false, false, false, false, false, false, false, false, false, false, false, false, false, false, false, false, false, false] rfl rfl (any_of HT_.out (by kernel_rfl)) (fun _ _ _ h => h) (Or.inl ⟨by rfl, ?_⟩) ?_ ?_
           rotate_left
           ·intro w'
            go_simp
            with_reducible rfl
           rotate_left
           ·simp only [Act.put, zB, zC, zD, i64_w, i32_w]
            rfl
           refine pure_ (i := 1) (N := some 82) (v := ?_) (a' := ?_) #[true, true, false, false, false, false, false, false, false, false, false, false, false, false, false, false, false, false, false, false, false, false, false, false, false, false] rfl rfl (any_of HT_.out (by kernel_rfl)) (fun _ _ _ h => h) (Or.inl ⟨by rfl, ?_⟩) ?_ ?_
           rotate_left
           ·intro w'
            go_simp
            with_reducible rfl
           rotate_left
           ·simp only [Act.put, zB, zC, zD, i64_w, i32_w]
            rfl
           refine pure_ (i := 2) (N := some 83) (v := ?_) (a' := ?_) #[true, true, true, false, false, false, false, false, false, false, false, false, false, false, false, false, false, false, false, false, false, false, false, false, false, false] rfl rfl (any_of HT_.out (by kernel_rfl)) (fun _ _ _ h => h) (Or.inl ⟨by rfl, ?_⟩) ?_ ?_
           rotate_left
           ·intro w'
            go_simp
            with_reducible rfl
           rotate_left
           ·simp only [Act.put, zB, zC, zD, i64_w, i32_w]
            rfl
           refine pure_ (i := 3) (N := some 84) (v := ?_) (a' := ?_) #[true, true, true, true, false, false, false, false, false, false, false, false, false, false, false, false, false, false, false, false, false, false, false, false, false, false] rfl rfl (any_of HT_.out (by kernel_rfl)) (fun _ _ _ h => h) (Or.inl ⟨by rfl, ?_⟩) ?_ ?_
           rotate_left
           ·intro w'
            go_simp
            with_reducible rfl
           rotate_left
           ·simp only [Act.put, zB, zC, zD, i64_w, i32_w]
            rfl
           refine pure_ (i := 5) (N := some 86) (v := ?_) (a' := ?_) #[true, true, true, true, false, true, false, false, false, false, false, false, false, false, false, false, false, false, false, false, false, false, false, false, false, false] rfl rfl (any_of HT_.out (by kernel_rfl)) (fun _ _ _ h => h) (Or.inl ⟨by rfl, ?_⟩) ?_ ?_
           rotate_left
           ·intro w'
            go_simp
            with_reducible rfl
           rotate_left
           ·simp only [Act.put, zB, zC, zD, i64_w, i32_w]
            rfl
           refine pure_ (i := 6) (N := some 87) (v := ?_) (a' := ?_) #[true, true, true, true, false, true, true, false, false, false, false, false, false, false, false, false, false, false, false, false, false, false, false, false, false, false] rfl rfl (any_of HT_.out (by kernel_rfl)) (fun _ _ _ h => h) (Or.inl ⟨by rfl, ?_⟩) ?_ ?_
           rotate_left
           ·intro w'
            go_simp
            with_reducible rfl
           rotate_left
           ·simp only [Act.put, zB, zC, zD, i64_w, i32_w]
            rfl
           refine pure_ (i := 7) (N := some 88) (v := ?_) (a' := ?_) #[true, true, true, true, false, true, true, true, false, false, false, false, false, false, false, false, false, false, false, false, false, false, false, false, false, false] rfl rfl (any_of HT_.out (by kernel_rfl)) (fun _ _ _ h => h) (Or.inl ⟨by rfl, ?_⟩) ?_ ?_
           rotate_left
           ·intro w'
            go_simp
            with_reducible rfl
           rotate_left
           ·simp only [Act.put, zB, zC, zD, i64_w, i32_w]
            rfl
           refine pure_ (i := 8) (N := some 89) (v := ?_) (a' := ?_) #[true, true, true, true, false, true, true, true, true, false, false, false, false, false, false, false, false, false, false, false, false, false, false, false, false, false] rfl rfl (any_of HT_.out (by kernel_rfl)) (fun _ _ _ h => h) (Or.inl ⟨by rfl, ?_⟩) ?_ ?_
           rotate_left
           ·intro w'
            go_simp
            with_reducible rfl
           rotate_left
           ·simp only [Act.put, zB, zC, zD, i64_w, i32_w]
            rfl
           refine pure_ (i := 11) (N := some 92) (v := ?_) (a' := ?_) #[true, true, true, true, false, true, true, true, true, false, false, true, false, false, false, false, false, false, false, false, false, false, false, false, false, false] rfl rfl (any_of HT_.out (by kernel_rfl)) (fun _ _ _ h => h) (Or.inl ⟨by rfl, ?_⟩) ?_ ?_
           rotate_left
           ·intro w'
            go_simp
            with_reducible rfl
           rotate_left
           ·simp only [Act.put, zB, zC, zD, i64_w, i32_w]
            rfl
           refine pure_ (i := 12) (N := some 93) (v := ?_) (a' := ?_) #[true, true, true, true, false, true, true, true, true, false, false, true, true, false, false, false, false, false, false, false, false, false, false, false, false, false] rfl rfl (any_of HT_.out (by kernel_rfl)) (fun _ _ _ h => h) (Or.inl ⟨by rfl, ?_⟩) ?_ ?_
           rotate_left
           ·intro w'
            go_simp
            with_reducible rfl
           rotate_left
           ·simp only [Act.put, zB, zC, zD, i64_w, i32_w]
            rfl
           refine pure_ (i := 13) (N := some 94) (v := ?_) (a' := ?_) #[true, true, true, true, false, true, true, true, true, false, false, true, true, true, false, false, false, false, false, false, false, false, false, false, false, false] rfl rfl (any_of HT_.out (by kernel_rfl)) (fun _ _ _ h => h) (Or.inl ⟨by rfl, ?_⟩) ?_ ?_
           rotate_left
           ·intro w'
            go_simp
            with_reducible rfl
           rotate_left
           ·simp only [Act.put, zB, zC, zD, i64_w, i32_w]
            rfl
           refine pure_ (i := 14) (N := some 95) (v := ?_) (a' := ?_) #[true, true, true, true, false, true, true, true, true, false, false, true, true, true, true, false, false, false, false, false, false, false, false, false, false, false] rfl rfl (any_of HT_.out (by kernel_rfl)) (fun _ _ _ h => h) (Or.inl ⟨by rfl, ?_⟩) ?_ ?_
           rotate_left
           ·intro w'
            go_simp
            with_reducible rfl
           rotate_left
           ·simp only [Act.put, zB, zC, zD, i64_w, i32_w]
            rfl
           refine pure_ (i := 15) (N := some 96) (v := ?_) (a' := ?_) #[true, true, true, true, false, true, true, true, true, false, false, true, true, true, true, true, false, false, false, false, false, false, false, false, false, false] rfl rfl (any_of HT_.out (by kernel_rfl)) (fun _ _ _ h => h) (Or.inl ⟨by rfl, ?_⟩) ?_ ?_
           rotate_left
           ·intro w'
            go_simp
            with_reducible rfl
           rotate_left
           ·simp only [Act.put, zB, zC, zD, i64_w, i32_w]
            rfl
           refine pure_ (i := 16) (N := some 97) (v := ?_) (a' := ?_) #[true, true, true, true, false, true, true, true, true, false, false, true, true, true, true, true, true, false, false, false, false, false, false, false, false, false] rfl rfl (any_of HT_.out (by kernel_rfl)) (fun _ _ _ h => h) (Or.inl ⟨by rfl, ?_⟩) ?_ ?_
           rotate_left
           ·intro w'
            go_simp
            with_reducible rfl
           rotate_left
           ·simp only [Act.put, zB, zC, zD, i64_w, i32_w]
            rfl
           refine pure_ (i := 17) (N := some 98) (v := ?_) (a' := ?_) #[true, true, true, true, false, true, true, true, true, false, false, true, true, true, true, true, true, true, false, false, false, false, false, false, false, false] rfl rfl (any_of HT_.out (by kernel_rfl)) (fun _ _ _ h => h) (Or.inl ⟨by rfl, ?_⟩) ?_ ?_
           rotate_left
           ·intro w'
            go_simp
            with_reducible rfl
           rotate_left
           ·simp only [Act.put, zB, zC, zD, i64_w, i32_w]
            rfl
           refine pure_ (i := 18) (N := some 99) (v := ?_) (a' := ?_) #[true, true, true, true, false, true, true, true, true, false, false, true, true, true, true, true, true, true, true, false, false, false, false, false, false, false] rfl rfl (any_of HT_.out (by kernel_rfl)) (fun _ _ _ h => h) (Or.inl ⟨by rfl, ?_⟩) ?_ ?_
           rotate_left
           ·intro w'
            go_simp
            with_reducible rfl
           rotate_left
           ·simp only [Act.put, zB, zC, zD, i64_w, i32_w]
            rfl
           refine pure_ (i := 19) (N := some 100) (v := ?_) (a' := ?_) #[true, true, true, true, false, true, true, true, true, false, false, true, true, true, true, true, true, true, true, true, false, false, false, false, false, false] rfl rfl (any_of HT_.out (by kernel_rfl)) (fun _ _ _ h => h) (Or.inl ⟨by rfl, ?_⟩) ?_ ?_
           rotate_left
           ·intro w'
            go_simp
            with_reducible rfl
           rotate_left
           ·simp only [Act.put, zB, zC, zD, i64_w, i32_w]
            rfl
           refine pure_ (i := 20) (N := some 101) (v := ?_) (a' := ?_) #[true, true, true, true, false, true, true, true, true, false, false, true, true, true, true, true, true, true, true, true, true, false, false, false, false, false] rfl rfl (any_of HT_.out (by kernel_rfl)) (fun _ _ _ h => h) (Or.inl ⟨by rfl, ?_⟩) ?_ ?_
           rotate_left
           ·intro w'
            go_simp
            with_reducible rfl
           rotate_left
           ·simp only [Act.put, zB, zC, zD, i64_w, i32_w]
            rfl
           refine take_ (i := 4) (N := some 85) (v := ?_) (a' := ?_) #[true, true, true, true, true, true, true, true, true, false, false, true, true, true, true, true, true, true, true, true, true, false, false, false, false, false] rfl rfl (take_ofW HT_.out HW_.out (by kernel_rfl)) (fun _ _ _ h => h) (Or.inl ⟨by rfl, ?_⟩) hHeld ?_ ?_
           rotate_left
           ·rintro w' ⟨s0, s1, s2, s3, s4, s5, s6⟩
            go_simp
            with_reducible rfl
           rotate_left
           ·simp only [Act.put, zB, zC, zD, i64_w, i32_w]
            rfl
           refine take_ (i := 9) (N := some 90) (v := ?_) (a' := ?_) #[true, true, true, true, true, true, true, true, true, true, false, true, true, true, true, true, true, true, true, true, true, false, false, false, false, false] rfl rfl (take_ofW HT_.out HW_.out (by kernel_rfl)) (fun _ _ _ h => h) (Or.inl ⟨by rfl, ?_⟩) hHeld ?_ ?_
           rotate_left
           ·rintro w' ⟨s0, s1, s2, s3, s4, s5, s6⟩
            go_simp
            with_reducible rfl
           rotate_left
           ·simp only [Act.put, zB, zC, zD, i64_w, i32_w]
            rfl
           refine pure_ (i := 10) (N := some 91) (v := ?_) (a' := ?_) #[true, true, true, true, true, true, true, true, true, true, true, true, true, true, true, true, true, true, true, true, true, false, false, false, false, false] rfl rfl (any_of HT_.out (by kernel_rfl)) (fun _ _ _ h => h) (Or.inl ⟨by rfl, ?_⟩) ?_ ?_
           rotate_left
           ·intro w'
            go_simp
            with_reducible rfl
           rotate_left
           ·simp only [Act.put, zB, zC, zD, i64_w, i32_w]
            rfl
           refine one_ (i := 21) (N := some 102) #[true, true, true, true, true, true, true, true, true, true, true, true, true, true, true, true, true, true, true, true, true, true, false, false, false, false] rfl rfl (one_of HT_.out (by kernel_rfl)) (by decide) (fun K hK => ?_)
           refine Kd.R_lit_step k61 _ 61 ?hg (N := 102) ?hd (xs := ([(⟨true, a1, a4_5, 24⟩ : S61), (⟨true, a1, a2, 24⟩ : S61), (⟨false, a1, a2, a3⟩ : S61), (⟨true, a1, a2, 24⟩ : S61)] : List (S61))) (inner := [.bool true, .int .i64 a1, .int .i64 a4_5, .int .i64 24, .bool true, .int .i64 a1, .int .i64 a2, .int .i64 24, .bool false, .int .i64 a1, .int .i64 a2, .int .i64 a3, .bool true, .int .i64 a1, .int .i64 a2, .int .i64 24]) (ok := fun _ => True) (okp := fun _ => True) ?hr ?hp (fun _ hk => hk) trivial (Below.refl _ _) (Nat.le_refl _) (by simp) ?_; (case hd => rfl); (case hg => rfl); (case hr => first | (go_simp; done) | (go_simp; rfl)); (case hp => exact (Reps.c4 (show Kd.M k61 _ _ _ (⟨true, a1, a4_5, 24⟩ : S61) [.bool true, .int .i64 a1, .int .i64 a4_5, .int .i64 24] from (k61_mkM _ _ _ (⟨true, a1, a4_5, 24⟩ : S61) )) (Reps.c4 (show Kd.M k61 _ _ _ (⟨true, a1, a2, 24⟩ : S61) [.bool true, .int .i64 a1, .int .i64 a2, .int .i64 24] from (k61_mkM _ _ _ (⟨true, a1, a2, 24⟩ : S61) )) (Reps.c4 (show Kd.M k61 _ _ _ (⟨false, a1, a2, a3⟩ : S61) [.bool false, .int .i64 a1, .int .i64 a2, .int .i64 a3] from (k61_mkM _ _ _ (⟨false, a1, a2, a3⟩ : S61) )) (Reps.c4 (show Kd.M k61 _ _ _ (⟨true, a1, a2, 24⟩ : S61) [.bool true, .int .i64 a1, .int .i64 a2, .int .i64 24] from (k61_mkM _ _ _ (⟨true, a1, a2, 24⟩ : S61) )) (Reps.none _ _))))))
           intro v172 w37 ho38 hb hg_ hnew_
           clear hg_ hnew_
           (first | rw [← Ny171.out] at ho38 | (simp only [Int.reduceToNat] at ho38; rw [← Ny171.out] at ho38))
           have n0_ := zA (zL (bC_ HO_8) hb)
           have n1_ := zA (zL (bC_ HO_162004) hb)
           have n2_ := zA (Kd.R_elder' (bC_ HO_162006) (Kd.R_base ho38) hb)
           have n3_ := zA (Kd.R_lower (Kd.R_new' (Kd.R_newM (M := fun k_ => ((P4_4_ k_ ∨ P4_6_ k_) ∨ w.heap.size ≤ k_)) ho38 (by first | exact HK.out.1 | exact (show Kept w _ (fun k_ => P4_4_ k_ ∨ P4_6_ k_) from by repeat (first | (with_reducible first | exact HK.out | apply Kept.alloc | apply Kept.drewN | apply Kept.drew | refine Kept.setCell ?_ (.inl (.inl hgS)) _) | exact HK.out)).1) (fun k_ h_ => .inr h_)) (Kd.R_lt (bC_ HO_162006))) (zT (bB_ HB)))
           have n4_ := zA (blk_below (g := gb161) (o := .cells #[.int .i64 a4_0, .int .i64 a4_1, .slice A4_2 l4_2.length c4_2, .int .i64 a4_3, .slice Ao7 x162004_3.length co7, .int .i64 a4_5, .slice Ao8 l4_6.length co8] 78 (0, 0)) (bA_ BK161) hb)
           have n5_ := zA (Kept.below (S := (fun k_ => P4_4_ k_ ∨ P4_6_ k_)) (by repeat (first | (with_reducible first | exact HK.out | apply Kept.alloc | apply Kept.drewN | apply Kept.drew | refine Kept.setCell ?_ (.inl (.inl hgS)) _) | exact HK.out)) hb)
           have n6_ := zA (below_step (bB_ HB) hb)
           clear HO_8
           clear HO_162004
           clear HO_162006
           clear BK161
           clear HK
           clear HB
           have HO_8 := n0_
           have HO_162004 := n1_
           have HO_162006 := n2_
           have HO173 := n3_
           have BK161 := n4_
           have HK := n5_
           have HB := n6_
           clear n0_ n1_ n2_ n3_ n4_ n5_ n6_
           clear hb ho38
           obtain ⟨Ao40, co40, eo40⟩ := Kd.R_slice HO173.out
           (first | subst eo40 | (injection eo40 with f1_ f2_ f3_; have f4_ := f1_.symm; have f5_ := f3_.symm; clear f1_ f2_ f3_; subst f4_; subst f5_))
           refine hK.out _ _ ⟨(blk_cell BK161.out 0).trans rfl, (blk_cell BK161.out 1).trans rfl, (blk_cell BK161.out 2).trans rfl, (blk_cell BK161.out 3).trans rfl, (blk_cell BK161.out 4).trans rfl, (blk_cell BK161.out 5).trans rfl, (blk_cell BK161.out 6).trans rfl⟩ (fun hHeld => ?_)
           clear hK K
           refine norm_ (a' := ?_) ?_ ?_
           rotate_left
           ·show Act.put _ (some 102) _ = _
            simp only [Act.put, zB, zC, zD, i64_w, i32_w]
            rfl
           refine one_ (i := 22) (N := some 103) #[true, true, true, true, true, true, true, true, true, true, true, true, true, true, true, true, true, true, true, true, true, true, true, false, false, false] rfl rfl (one_of HT_.out (by kernel_rfl)) (by decide) (fun K hK => ?_)
           refine Kd.R_append_rows_step k61 (w0 := w0) w0.heap.size (by rfl) (.tmp 85) (.tmp 102) 47 61 (.agg #[(.bool false), (.int .i64 0), (.int .i64 0), (.int .i64 0)]) 32 rfl Try.underlying47 info61 rfl (by decide) (by omega) (.slice Ao8 l4_6.length co8) l4_6 y171 _ _ _ (fun k_ => ((P4_4_ k_ ∨ P4_6_ k_) ∨ w.heap.size ≤ k_) ∧ some k_ ≠ (.slice Ao40 y171.length co40 : Value).ownBlock) (fun _ => False) rfl rfl ?aO ?aR (fun _ _ h => h) (fun _ h => h.elim) ?aF ?aB ?aS ?aL ?_
           (case aR => repeat (first | exact (zK HO173.out).2.2 | (with_reducible refine Kd.C_alloc ?_ _) | (with_reducible refine Kd.C_drewN ?_ _) | (with_reducible refine Kd.C_drew ?_)))
           (case aB => exact (bB_ HB))
           (case aF => exact (fun k_ hk => ⟨(.inr (Nat.le_trans (by first | exact HK.out.1 | exact (show Kept w _ (fun k_ => P4_4_ k_ ∨ P4_6_ k_) from by repeat (first | (with_reducible first | exact HK.out | apply Kept.alloc | apply Kept.drewN | apply Kept.drew | refine Kept.setCell ?_ (.inl (.inl hgS)) _) | exact HK.out)).1) hk)), Kd.fresh' (Kd.R_lt (bC_ HO173)) k_ hk⟩))
           (case aO => exact (bC_ HO_162006))
           (case aS => exact (zT (bB_ HB)))
           (case aL => have := LMc35.out; omega)
           intro v175 w39 ho hb hg hat
           rw [← Ny174.out] at ho
           have n0_ := zA (Kd.R_over' (bC_ HO_8) (Kd.R_typed (bC_ HO_162006)) (by decide) hg)
           have n1_ := zA (Kd.R_over' (bC_ HO_162004) (Kd.R_typed (bC_ HO_162006)) (by decide) hg)
           have n2_ := zA (blk_grown (g := gb161) (o := .cells #[.int .i64 a4_0, .int .i64 a4_1, .slice A4_2 l4_2.length c4_2, .int .i64 a4_3, .slice Ao7 x162004_3.length co7, .int .i64 a4_5, .slice Ao8 l4_6.length co8] 78 (0, 0)) (bA_ BK161) hg (Kd.R_ne HO_162006.out BK161.out (by decide)))
           have n3_ := zA (Kd.R_after (ok := (fun k_ => ((P4_4_ k_ ∨ P4_6_ k_) ∨ w.heap.size ≤ k_))) (by (with_reducible repeat (first | apply zF | apply zE | apply zG)); exact Kd.R_mono HO173.out (fun _ hk => ⟨hk.1.1, hk.2⟩)) hg hat)
           have n4_ := zA (hb)
           have n5_ := zA (Kept.of_grown (S := (fun k_ => P4_4_ k_ ∨ P4_6_ k_)) hg (by repeat (first | (with_reducible first | exact HK.out | apply Kept.alloc | apply Kept.drewN | apply Kept.drew | refine Kept.setCell ?_ (.inl (.inl hgS)) _) | exact HK.out)) (fun k_ e_ => (HO_162006.out.1 k_ e_).1))
           have n6_ := zA (ho)
           clear HO_8
           clear HO_162004
           clear BK161
           clear HO173
           clear HB
           clear HK
           clear HO_162006
           have HO_8 := n0_
           have HO_162004 := n1_
           have BK161 := n2_
           have HO173 := n3_
           have HB := n4_
           have HK := n5_
           have HO176 := n6_
           clear n0_ n1_ n2_ n3_ n4_ n5_ n6_
           clear ho hb hg hat
           obtain ⟨Ao41, co41, eo41⟩ := Kd.R_slice HO176.out
           (first | subst eo41 | (injection eo41 with f1_ f2_ f3_; have f4_ := f1_.symm; have f5_ := f3_.symm; clear f1_ f2_ f3_; subst f4_; subst f5_))
           refine hK.out _ _ ⟨(blk_cell BK161.out 0).trans rfl, (blk_cell BK161.out 1).trans rfl, (blk_cell BK161.out 2).trans rfl, (blk_cell BK161.out 3).trans rfl, (blk_cell BK161.out 4).trans rfl, (blk_cell BK161.out 5).trans rfl, (blk_cell BK161.out 6).trans rfl⟩ (fun hHeld => ?_)
           clear hK K
           refine norm_ (a' := ?_) ?_ ?_
           rotate_left
           ·show Act.put _ (some 103) _ = _
            simp only [Act.put, zB, zC, zD, i64_w, i32_w]
            rfl
           refine pure_ (i := 23) (N := some 104) (v := ?_) (a' := ?_) #[true, true, true, true, true, true, true, true, true, true, true, true, true, true, true, true, true, true, true, true, true, true, true, true, false, false] rfl rfl (any_of HT_.out (by kernel_rfl)) (fun _ _ _ h => h) (Or.inl ⟨by rfl, ?_⟩) ?_ ?_
           rotate_left
           ·intro w'
            go_simp
            with_reducible rfl
           rotate_left
           ·simp only [Act.put, zB, zC, zD, i64_w, i32_w]
            rfl
           refine pure_ (i := 24) (N := some 105) (v := ?_) (a' := ?_) #[true, true, true, true, true, true, true, true, true, true, true, true, true, true, true, true, true, true, true, true, true, true, true, true, true, false] rfl rfl (any_of HT_.out (by kernel_rfl)) (fun _ _ _ h => h) (Or.inl ⟨by rfl, ?_⟩) ?_ ?_
           rotate_left
           ·intro w'
            go_simp
            with_reducible rfl
           rotate_left
           ·simp only [Act.put, zB, zC, zD, i64_w, i32_w]
            rfl
           refine last_ (i := 25) (N := none) #[true, true, true, true, true, true, true, true, true, true, true, true, true, true, true, true, true, true, true, true, true, true, true, true, true, true] rfl rfl (one_of HT_.out (by kernel_rfl)) (by decide) (fun K hK => ?_)
           have hs42 : w39.cell? ⟨gb161, 6, none⟩ = some (.slice Ao8 l4_6.length co8) := (blk_cell BK161.out 6).trans rfl
           have hfs42 := blk_frozen BK161.out 6
           refine skip_ (w1 := ?_) (by rfl) rfl ?_ ?_
           rotate_left
           ·go_simp
            rfl
           refine hK.out _ _ ?_
           clear hK K
           refine done_ (done_of HT_.out (by kernel_rfl)) ?_
           have hcz43_0 : w39.cell? ⟨gb161, 0, none⟩ = some (.int .i64 a4_0) := (blk_cell BK161.out 0).trans rfl
           have hcz43_1 : w39.cell? ⟨gb161, 1, none⟩ = some (.int .i64 a4_1) := (blk_cell BK161.out 1).trans rfl
           have hcz43_2 : w39.cell? ⟨gb161, 2, none⟩ = some (.slice A4_2 l4_2.length c4_2) := (blk_cell BK161.out 2).trans rfl
           have hcz43_3 : w39.cell? ⟨gb161, 3, none⟩ = some (.int .i64 a4_3) := (blk_cell BK161.out 3).trans rfl
           have hcz43_4 : w39.cell? ⟨gb161, 4, none⟩ = some (.slice Ao7 x162004_3.length co7) := (blk_cell BK161.out 4).trans rfl
           have hcz43_5 : w39.cell? ⟨gb161, 5, none⟩ = some (.int .i64 a4_5) := (blk_cell BK161.out 5).trans rfl
           have hcz43_6 : w39.cell? ⟨gb161, 6, none⟩ = some (.slice Ao8 l4_6.length co8) := (blk_cell BK161.out 6).trans rfl
           have hfz43_0 := blk_frozen BK161.out 0
           have hfz43_1 := blk_frozen BK161.out 1
           have hfz43_2 := blk_frozen BK161.out 2
           have hfz43_3 := blk_frozen BK161.out 3
           have hfz43_4 := blk_frozen BK161.out 4
           have hfz43_5 := blk_frozen BK161.out 5
           have hfz43_6 := blk_frozen BK161.out 6
           try go_wp2
           first | go_end0 | ((try simp only [Exit.inBlock, Exit.then]); refine bodyPost_ret (results_none rfl _ _ _) rfl ?_) | (refine bodyPost_end (results_none rfl _ _ _) rfl ?_)
           exact ⟨_, by first | rfl | (simp [errW_none, errW_some] <;> rfl) | (simp [*, errW_none, errW_some] <;> rfl), (by first | ((with_reducible repeat (first | refine zM ?_ _ | refine zN ?_ | refine zO ?_ _)); refine blk_put (cs := #[.int .i64 a4_0, .int .i64 a4_1, .slice A4_2 l4_2.length c4_2, .int .i64 a4_3, .slice Ao7 x162004_3.length co7, .int .i64 a4_5, .slice Ao41 y174.length co41]) ?_ 5 _ rfl; (with_reducible repeat (first | refine zM ?_ _ | refine zN ?_ | refine zO ?_ _)); refine blk_put (cs := #[.int .i64 a4_0, .int .i64 a4_1, .slice A4_2 l4_2.length c4_2, .int .i64 a4_3, .slice Ao7 x162004_3.length co7, .int .i64 a4_5, .slice Ao8 l4_6.length co8]) ?_ 6 _ rfl; (with_reducible repeat (first | refine zM ?_ _ | refine zN ?_ | refine zO ?_ _)); exact BK161.out) | (simp only [hl162004_3, hl8_3]; (with_reducible repeat (first | refine zM ?_ _ | refine zN ?_ | refine zO ?_ _)); refine blk_put (cs := #[.int .i64 a4_0, .int .i64 a4_1, .slice A4_2 l4_2.length c4_2, .int .i64 a4_3, .slice Ao7 x162004_3.length co7, .int .i64 a4_5, .slice Ao41 y174.length co41]) ?_ 5 _ rfl; (with_reducible repeat (first | refine zM ?_ _ | refine zN ?_ | refine zO ?_ _)); refine blk_put (cs := #[.int .i64 a4_0, .int .i64 a4_1, .slice A4_2 l4_2.length c4_2, .int .i64 a4_3, .slice Ao7 x162004_3.length co7, .int .i64 a4_5, .slice Ao8 l4_6.length co8]) ?_ 6 _ rfl; (with_reducible repeat (first | refine zM ?_ _ | refine zN ?_ | refine zO ?_ _)); exact BK161.out)), by (with_reducible repeat (first | apply zF | apply zE | apply zG)); exact Kd.R_mono (Kd.R_far (p := ⟨gb161, 5, none⟩) (Kd.R_far (p := ⟨gb161, 6, none⟩) (Kd.R_types HO176.out BK161.out (by decide)) (fun _ hk => hk.2) (.slice Ao41 y174.length co41)) (fun _ hk => hk.2) (.int .i64 a2)) (fun _ hk => hk.1.1), (by first | exact (by (with_reducible repeat (first | apply zF | apply zE | apply zG)); exact Kd.R_mono (Kd.R_far (p := ⟨gb161, 5, none⟩) (Kd.R_far (p := ⟨gb161, 6, none⟩) (Kd.R_types HO_162004.out BK161.out (by decide)) (fun _ hk => hk.2) (.slice Ao41 y174.length co41)) (fun _ hk => hk.2) (.int .i64 a2)) (fun _ hk => hk.1.1)) | (simp only [hl8_3, hl162004_3]; exact (by (with_reducible repeat (first | apply zF | apply zE | apply zG)); exact Kd.R_mono (Kd.R_far (p := ⟨gb161, 5, none⟩) (Kd.R_far (p := ⟨gb161, 6, none⟩) (Kd.R_types HO_162004.out BK161.out (by decide)) (fun _ hk => hk.2) (.slice Ao41 y174.length co41)) (fun _ hk => hk.2) (.int .i64 a2)) (fun _ hk => hk.1.1)))), bB_ HB, by repeat (first | (with_reducible first | exact HK.out | apply Kept.alloc | apply Kept.drewN | apply Kept.drew | refine Kept.setCell ?_ (.inl (.inl hgS)) _) | exact HK.out)⟩
          ·rw [if_neg c35] at H
           exact absurd H (by simp)

end Go.Proofs.Ytgmbbcnfcddamaa.PFnExactZigzag
