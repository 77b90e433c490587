/- Written for this claim by a program of this session: the functions that the law reaches, each with its contract. -/
import Derived.Test.YtnbkdfnlggmopaaPFnExactSketchMovex0
import Derived.Test.YtnbkdfnlggmopaaPFnExactSketchMovex3
namespace Go.Proofs.Ytnbkdfnlggmopaa.PFnExactSketchMove
open Go.RowKit Go.Proofs.YtnbkdfnlggmopaaW.PrintWords Go.Proofs.YtnbkdfnlggmopaaW.PrintLast Go.Proofs.YtnbkdfnlggmopaaW.PrintMore
open Go.Proofs.YtnbkdfnlggmopaaW.PrintWords.Aside0 renaming mk → zA
open List renaming setIfInBounds_toArray → zB, set_cons_zero → zC, set_cons_succ → zD
open Go.Proofs.YtnbkdfnlggmopaaW.PrintWords.Kd renaming R_drewN → zE, R_alloc → zF, R_drew → zG, C_drewN → zH, C_alloc → zI, R_reads' → zK, R_below → zL
open Go.Proofs.YtnbkdfnlggmopaaW.PrintWords renaming blk_drewN → zM, blk_drew → zN, blk_alloc → zO, below_drew1 → zQ, below_set → zS, below_size → zT, blk_below → zU
attribute [local go_sem] i64_w max2_int min2_int max_two min_two max_three min_three max_four min_four
set_option linter.unusedVariables false
set_option linter.unusedSimpArgs false

mutual
def impl_leastOf.l0 : Nat → List Bool → List (S48) → Int → Int → List (S35) → Option ((List (S48)) × Bool)
 | 0, _, _, _, _, _ => none
 | k + 1, x1, x6, x7, x170000, x170001 => if x7 < 2 then ((impl_lows.f k x170000 x170001 x7 x1).bind fun t173 => (if 0 ≤ (wrap64 (x170000 + 1)) then (if (wrap64 (x170000 + 1) : Int).toNat ≤ 35184372088832 then (impl_leastOf.l1 k x1 x6 x7 t173 (List.replicate (wrap64 (x170000 + 1) : Int).toNat 0) 0 x170000 x170001) else (none)) else (none))) else (some (x6, true))
def impl_leastOf.l1 : Nat → List Bool → List (S48) → Int → List (S81) → List Int → Int → Int → List (S35) → Option ((List (S48)) × Bool)
 | 0, _, _, _, _, _, _, _, _ => none
 | k + 1, x1, x6, x7, x8, x9, x10, x170000, x170001 => impl_leastOf.l2 k x1 x6 x7 x8 x9 x10 false x8 (x8.length : Int) 0 x170000 x170001
def impl_leastOf.l2 : Nat → List Bool → List (S48) → Int → List (S81) → List Int → Int → Bool → List (S81) → Int → Int → Int → List (S35) → Option ((List (S48)) × Bool)
 | 0, _, _, _, _, _, _, _, _, _, _, _, _ => none
 | k + 1, x1, x6, x7, x8, x9, x10, x11, x32, x33, x34, x170000, x170001 => if x34 < x33 then (if 0 ≤ x34 then (if x34 < (x32.length : Int) then (if 0 ≤ ((rd_T81 x32 x34).f0) then (if ((rd_T81 x32 x34).f0) < (x9.length : Int) then (if 0 ≤ ((rd_T81 x32 x34).f1) then (if ((rd_T81 x32 x34).f1) < (x9.length : Int) then (if (wrap64 ((rd x9 ((rd_T81 x32 x34).f0)) + ((rd_T81 x32 x34).f2))) > (rd x9 ((rd_T81 x32 x34).f1)) then (impl_leastOf.l2 k x1 x6 x7 x8 (x9.set (((rd_T81 x32 x34).f1) : Int).toNat (wrap64 ((rd x9 ((rd_T81 x32 x34).f0)) + ((rd_T81 x32 x34).f2)))) x10 true x32 x33 (wrap64 (x34 + 1)) x170000 x170001) else (impl_leastOf.l2 k x1 x6 x7 x8 x9 x10 x11 x32 x33 (wrap64 (x34 + 1)) x170000 x170001)) else (none)) else (none)) else (none)) else (none)) else (none)) else (none)) else (if x11 = true then (if x10 > (wrap64 (x170000 + 1)) then (some (([] : List (S48)), false)) else (if 0 ≤ x170000 then (if x170000 < (x9.length : Int) then (if (rd x9 x170000) > 0 then (some (([] : List (S48)), false)) else (impl_leastOf.l1 k x1 x6 x7 x8 x9 (wrap64 (x10 + 1)) x170000 x170001)) else (none)) else (none))) else (impl_leastOf.l3 k x1 x6 x7 x9 (x6.length : Int) 0 x170000 x170001))
def impl_leastOf.l3 : Nat → List Bool → List (S48) → Int → List Int → Int → Int → Int → List (S35) → Option ((List (S48)) × Bool)
 | 0, _, _, _, _, _, _, _, _ => none
 | k + 1, x1, x6, x7, x9, x81, x82, x170000, x170001 => if x82 < x81 then (if x7 = 0 then (if 0 ≤ x82 then (if x82 < (x9.length : Int) then (if x82 < (x6.length : Int) then (impl_leastOf.l3 k x1 (x6.set (x82 : Int).toNat (⟨rd x9 x82, (rd_T48 x6 x82).f1⟩ : S48)) x7 x9 x81 (wrap64 (x82 + 1)) x170000 x170001) else (none)) else (none)) else (none)) else (if 0 ≤ x82 then (if x82 < (x9.length : Int) then (if x82 < (x6.length : Int) then (impl_leastOf.l3 k x1 (x6.set (x82 : Int).toNat (⟨(rd_T48 x6 x82).f0, rd x9 x82⟩ : S48)) x7 x9 x81 (wrap64 (x82 + 1)) x170000 x170001) else (none)) else (none)) else (none))) else (impl_leastOf.l0 k x1 x6 (wrap64 (x7 + 1)) x170000 x170001)
end
def impl_leastOf.f (k : Nat) (a0_0 : Int) (l0_1 : List (S35)) (l1 : List Bool) : Option ((List (S48)) × Bool) := if 0 ≤ a0_0 then (if (a0_0 : Int).toNat ≤ 17592186044416 then (impl_leastOf.l0 k l1 (List.replicate (a0_0 : Int).toNat z48) 0 a0_0 l0_1) else (none)) else (none)
theorem impl_leastOf.mono_l : ∀ k, (∀ y0 y1 y2 y3 y4, LeO (impl_leastOf.l0 k y0 y1 y2 y3 y4) (impl_leastOf.l0 (k + 1) y0 y1 y2 y3 y4)) ∧ (∀ y0 y1 y2 y3 y4 y5 y6 y7, LeO (impl_leastOf.l1 k y0 y1 y2 y3 y4 y5 y6 y7) (impl_leastOf.l1 (k + 1) y0 y1 y2 y3 y4 y5 y6 y7)) ∧ (∀ y0 y1 y2 y3 y4 y5 y6 y7 y8 y9 y10 y11, LeO (impl_leastOf.l2 k y0 y1 y2 y3 y4 y5 y6 y7 y8 y9 y10 y11) (impl_leastOf.l2 (k + 1) y0 y1 y2 y3 y4 y5 y6 y7 y8 y9 y10 y11)) ∧ (∀ y0 y1 y2 y3 y4 y5 y6 y7, LeO (impl_leastOf.l3 k y0 y1 y2 y3 y4 y5 y6 y7) (impl_leastOf.l3 (k + 1) y0 y1 y2 y3 y4 y5 y6 y7))
 | 0 => ⟨fun _ _ _ _ _ r h => by simp [impl_leastOf.l0] at h, fun _ _ _ _ _ _ _ _ r h => by simp [impl_leastOf.l1] at h, fun _ _ _ _ _ _ _ _ _ _ _ _ r h => by simp [impl_leastOf.l2] at h, fun _ _ _ _ _ _ _ _ r h => by simp [impl_leastOf.l3] at h⟩
 | k + 1 => by
  obtain ⟨ih0, ih1, ih2, ih3⟩ := impl_leastOf.mono_l k
  refine ⟨?_, ?_, ?_, ?_⟩
  ·intro y0 y1 y2 y3 y4
   unfold impl_leastOf.l0
   repeat' first
   | (with_reducible exact ih0 _ _ _ _ _)
   | (with_reducible exact ih1 _ _ _ _ _ _ _ _)
   | (with_reducible exact ih2 _ _ _ _ _ _ _ _ _ _ _ _)
   | (with_reducible exact ih3 _ _ _ _ _ _ _ _)
   | (with_reducible exact impl_lows.mono _ _ _ _ _)
   | (with_reducible exact LeO.refl _)
   | (with_reducible exact LeO.none _)
   | (with_reducible refine LeO.ite ?_ ?_)
   | (with_reducible refine LeO.bind ?_ (fun _ => ?_))
   | exact ih0 _ _ _ _ _
   | exact ih1 _ _ _ _ _ _ _ _
   | exact ih2 _ _ _ _ _ _ _ _ _ _ _ _
   | exact ih3 _ _ _ _ _ _ _ _
   | exact impl_lows.mono _ _ _ _ _
   | exact LeO.none _
   | refine LeO.ite ?_ ?_
   | refine LeO.bind ?_ (fun _ => ?_)
  ·intro y0 y1 y2 y3 y4 y5 y6 y7
   unfold impl_leastOf.l1
   repeat' first
   | (with_reducible exact ih0 _ _ _ _ _)
   | (with_reducible exact ih1 _ _ _ _ _ _ _ _)
   | (with_reducible exact ih2 _ _ _ _ _ _ _ _ _ _ _ _)
   | (with_reducible exact ih3 _ _ _ _ _ _ _ _)
   | (with_reducible exact impl_lows.mono _ _ _ _ _)
   | (with_reducible exact LeO.refl _)
   | (with_reducible exact LeO.none _)
   | (with_reducible refine LeO.ite ?_ ?_)
   | (with_reducible refine LeO.bind ?_ (fun _ => ?_))
   | exact ih0 _ _ _ _ _
   | exact ih1 _ _ _ _ _ _ _ _
   | exact ih2 _ _ _ _ _ _ _ _ _ _ _ _
   | exact ih3 _ _ _ _ _ _ _ _
   | exact impl_lows.mono _ _ _ _ _
   | exact LeO.none _
   | refine LeO.ite ?_ ?_
   | refine LeO.bind ?_ (fun _ => ?_)
  ·intro y0 y1 y2 y3 y4 y5 y6 y7 y8 y9 y10 y11
   unfold impl_leastOf.l2
   repeat' first
   | (with_reducible exact ih0 _ _ _ _ _)
   | (with_reducible exact ih1 _ _ _ _ _ _ _ _)
   | (with_reducible exact ih2 _ _ _ _ _ _ _ _ _ _ _ _)
   | (with_reducible exact ih3 _ _ _ _ _ _ _ _)
   | (with_reducible exact impl_lows.mono _ _ _ _ _)
   | (with_reducible exact LeO.refl _)
   | (with_reducible exact LeO.none _)
   | (with_reducible refine LeO.ite ?_ ?_)
   | (with_reducible refine LeO.bind ?_ (fun _ => ?_))
   | exact ih0 _ _ _ _ _
   | exact ih1 _ _ _ _ _ _ _ _
   | exact ih2 _ _ _ _ _ _ _ _ _ _ _ _
   | exact ih3 _ _ _ _ _ _ _ _
   | exact impl_lows.mono _ _ _ _ _
   | exact LeO.none _
   | refine LeO.ite ?_ ?_
   | refine LeO.bind ?_ (fun _ => ?_)
  ·intro y0 y1 y2 y3 y4 y5 y6 y7
   unfold impl_leastOf.l3
   repeat' first
   | (with_reducible exact ih0 _ _ _ _ _)
   | (with_reducible exact ih1 _ _ _ _ _ _ _ _)
   | (with_reducible exact ih2 _ _ _ _ _ _ _ _ _ _ _ _)
   | (with_reducible exact ih3 _ _ _ _ _ _ _ _)
   | (with_reducible exact impl_lows.mono _ _ _ _ _)
   | (with_reducible exact LeO.refl _)
   | (with_reducible exact LeO.none _)
   | (with_reducible refine LeO.ite ?_ ?_)
   | (with_reducible refine LeO.bind ?_ (fun _ => ?_))
   | exact ih0 _ _ _ _ _
   | exact ih1 _ _ _ _ _ _ _ _
   | exact ih2 _ _ _ _ _ _ _ _ _ _ _ _
   | exact ih3 _ _ _ _ _ _ _ _
   | exact impl_lows.mono _ _ _ _ _
   | exact LeO.none _
   | refine LeO.ite ?_ ?_
   | refine LeO.bind ?_ (fun _ => ?_)
theorem impl_leastOf.mono : ∀ a0 a1 a2 k, LeO (impl_leastOf.f k a0 a1 a2) (impl_leastOf.f (k + 1) a0 a1 a2) := by
 intro a0 a1 a2 k
 obtain ⟨ih0, ih1, ih2, ih3⟩ := impl_leastOf.mono_l k
 unfold impl_leastOf.f
 repeat' first
   | (with_reducible exact ih0 _ _ _ _ _)
   | (with_reducible exact ih1 _ _ _ _ _ _ _ _)
   | (with_reducible exact ih2 _ _ _ _ _ _ _ _ _ _ _ _)
   | (with_reducible exact ih3 _ _ _ _ _ _ _ _)
   | (with_reducible exact impl_lows.mono _ _ _ _ _)
   | (with_reducible exact LeO.refl _)
   | (with_reducible exact LeO.none _)
   | (with_reducible refine LeO.ite ?_ ?_)
   | (with_reducible refine LeO.bind ?_ (fun _ => ?_))
   | exact ih0 _ _ _ _ _
   | exact ih1 _ _ _ _ _ _ _ _
   | exact ih2 _ _ _ _ _ _ _ _ _ _ _ _
   | exact ih3 _ _ _ _ _ _ _ _
   | exact impl_lows.mono _ _ _ _ _
   | exact LeO.none _
   | refine LeO.ite ?_ ?_
   | refine LeO.bind ?_ (fun _ => ?_)
def impl_leastOf.T13 : Bool × List (List Nat × List Nat) := (true, [([], []), ([], []), ([1], [1]), ([0, 2], [0, 2]), ([3], [3]), ([], []), ([5], [5]), ([4, 6], [4, 6]), ([], []), ([], []), ([9], [9]), ([8, 10], [8, 10]), ([11], [11]), ([7, 12], [7, 12])])
def impl_leastOf.B13 : List Nat := [0, 0, 2, 7, 15, 0, 32, 127, 0, 0, 512, 1792, 3840, 8191]
theorem impl_leastOf.tab13 : rtab .any (opsOf Try.f33 13) = impl_leastOf.T13 := by kernel_rfl
theorem impl_leastOf.bits13 : waitsOk impl_leastOf.T13.2 impl_leastOf.B13 = true := by kernel_rfl
def impl_leastOf.T14 : Bool × List (List Nat × List Nat) := (true, [([], []), ([], []), ([1], [1]), ([], []), ([], []), ([4], [4]), ([3, 5], [3, 5]), ([6], [6]), ([], []), ([8], [8]), ([7, 9], [7, 9]), ([0, 2, 0, 1, 2, 3, 4, 5, 6, 7, 8, 9, 10], [0, 2]), ([11, 10, 0, 1, 2, 3, 4, 5, 6, 7, 8, 9, 10], [10, 11])])
def impl_leastOf.B14 : List Nat := [0, 0, 2, 0, 0, 16, 56, 120, 0, 256, 1016, 2047, 4095]
theorem impl_leastOf.tab14 : rtab .any (opsOf Try.f33 14) = impl_leastOf.T14 := by kernel_rfl
theorem impl_leastOf.bits14 : waitsOk impl_leastOf.T14.2 impl_leastOf.B14 = true := by kernel_rfl
set_option maxHeartbeats 8000000 in
set_option maxRecDepth 100000 in
theorem impl_leastOf.calls (k : Nat) (a0_0 : Int) (A0_1 : Option Addr) (c0_1 : Nat) (l0_1 : List (S35)) (A1 : Option Addr) (c1 : Nat) (l1 : List Bool) (r1 : List (S48)) (r2 : Bool) (w : World) (hr0_1 : Kd.C k35 w A0_1 l0_1.length l0_1) (hc0_1 : l0_1.length ≤ c0_1) (hr1 : Kd.C Kd.bool w A1 l1.length l1) (hc1 : l1.length ≤ c1) (h : impl_leastOf.f k a0_0 l0_1 l1 = some (r1, r2)) :
  Calls Try.prog 33 #[.agg #[.int .i64 a0_0, .slice A0_1 l0_1.length c0_1], .slice A1 l1.length c1] w fun e w' => ∃ v0_ : Value, e = .returned (.tuple #[v0_, .bool r2]) ∧ Kd.R k48 48 w' w.heap.size (fun _ => True) v0_ r1 ∧ Below w.heap.size w w' := by
 have hu25 := Try.underlying25
 have hu81 := Try.underlying81
 have HR0_1 := zA hr0_1
 have HC0_1 := zA hc0_1
 clear hr0_1 hc0_1
 have HR1 := zA hr1
 have HC1 := zA hc1
 clear hr1 hc1
 have HB := zA (Below.refl w.heap.size w)
 have H : (if 0 ≤ a0_0 then (if (a0_0 : Int).toNat ≤ 17592186044416 then (impl_leastOf.l0 k l1 (List.replicate (a0_0 : Int).toNat z48) 0 a0_0 l0_1) else (none)) else (none)) = some (r1, r2) := h
 clear h
 by_cases c3 : 0 ≤ a0_0
 ·rw [if_pos c3] at H
  have c3b0 := eq_true c3
  have c3b1 : decide (0 ≤ a0_0) = true := decide_eq_true c3
  clear c3
  by_cases c4 : (a0_0 : Int).toNat ≤ 17592186044416
  ·rw [if_pos c4] at H
   have c4b0 := eq_true c4
   have c4b1 : decide ((a0_0 : Int).toNat ≤ 17592186044416) = true := decide_eq_true c4
   clear c4
   obtain ⟨y170, hy170⟩ : ∃ y_ : List (S48), y_ = (List.replicate (a0_0 : Int).toNat z48) := ⟨_, rfl⟩
   replace H : (impl_leastOf.l0 k l1 y170 0 a0_0 l0_1) = some (r1, r2) := by first | (rw [hy170]; with_reducible exact H) | (have H2_ := (Option.bind_some _ _).symm.trans H; rw [hy170]; with_reducible exact H2_) | (have H2_ := (Option.bind_some _ _).symm.trans H; with_reducible exact H2_) | with_reducible exact H | (rw [hy170]; exact H) | exact H
   have Ny170 := zA hy170
   clear hy170
   have H' := zA H
   clear H
   go_enter Try.func33, Try.ntmps33
   go_wp2_with (first | ((with_reducible refine gate_dst (N := 2) rfl ?_); refine box_event ?hg (N := 2) ?hd (cs := #[.int .i64 a0_0, .slice A0_1 l0_1.length c0_1]) (t := 25) ?hr ?_; (case hd => rfl); (case hg => rfl); (case hr => first | (go_simp; done) | (go_simp; rfl)); intro gb169 hg w5 hbox hb; have n0_ := zA (below_step (bB_ HB) hb); have n1_ := zA (hbox); have n2_ := zA ((by rw [hg]; exact (zT (bB_ HB)) : w.heap.size ≤ gb169)); have n3_ := zA ((by rw [hg]; exact (zT (bB_ HB)) : w.heap.size ≤ gb169)); clear HB; have HB := n0_; have BK169 := n1_; have GW169 := n2_; have GE169 := n3_; clear n0_ n1_ n2_ n3_; clear hb hbox hg; have hcz6_0 : w5.cell? ⟨gb169, 0, none⟩ = some (.int .i64 a0_0) := (blk_cell BK169.out 0).trans rfl; have hcz6_1 : w5.cell? ⟨gb169, 1, none⟩ = some (.slice A0_1 l0_1.length c0_1) := (blk_cell BK169.out 1).trans rfl; have hfz6_0 := blk_frozen BK169.out 0; have hfz6_1 := blk_frozen BK169.out 1) | ((with_reducible refine gate_dst (N := 17) rfl ?_); refine Kd.R_make k48 _ 48 rfl (N := 17) rfl 27 _ _ rfl a0_0 rfl rfl Try.underlying27 (.agg #[(.int .i64 0), (.int .i64 0)]) 16 info48 rfl (by decide) (by omega) z48 (ok := fun _ => True) (okp := fun _ => True) (k48_mkM _ _ _ z48 ) (fun _ hk => hk) trivial (of_decide_eq_true (by first | (with_reducible assumption) | assumption)) (Nat.le_trans (Nat.mul_le_mul_right _ (of_decide_eq_true (by first | (with_reducible assumption) | assumption) : a0_0.toNat ≤ 17592186044416)) (by omega)) (Below.refl _ _) (Nat.le_refl _) ?_; intro v171 w7 ho8 hb hg_ hnew_; clear hg_ hnew_; (first | rw [← Ny170.out] at ho8 | (simp only [Int.reduceToNat] at ho8; rw [← Ny170.out] at ho8)); have n0_ := zA (Kd.R_lower ho8 (zT (bB_ HB))); have n1_ := zA (zU (g := gb169) (o := .cells #[.int .i64 a0_0, .slice A0_1 l0_1.length c0_1] 25 (0, 0)) (bA_ BK169) hb); have n2_ := zA (below_step (bB_ HB) hb); clear BK169; clear HB; have HO172 := n0_; have BK169 := n1_; have HB := n2_; clear n0_ n1_ n2_; clear hb ho8))
   go_loopg [7] k (fun kq v7 w' => ∃ (x6_1 : List (S48)) (x7_1 : Int), v7 = .int .i64 x7_1 ∧ Aside0 (impl_leastOf.l0 kq l1 x6_1 x7_1 a0_0 l0_1 = some (r1, r2)) ∧ Aside0 (kq ≤ k) ∧ Aside0 (Kd.R k48 48 w' w.heap.size (fun _ => True) v171 x6_1) ∧ Aside0 (w'.heap[gb169]? = some (.cells #[.int .i64 a0_0, (.slice A0_1 l0_1.length c0_1)] 25 (0, 0))) ∧ Aside0 (Below w.heap.size w w'))
   case atStart => exact ⟨(y170), (0), (by first | rfl | (simp; done) | (simp [*]; done)), H', ⟨Nat.le_refl _⟩, ⟨bC_ HO172⟩, ⟨bA_ BK169⟩, ⟨bB_ HB⟩⟩
   case round =>
    clear H'
    try clear c1
    try clear p2
    try clear c3
    try clear c3b0
    try clear c3b1
    try clear c4
    try clear c4b0
    try clear c4b1
    try clear hcz6_0
    try clear hcz6_1
    try clear hfz6_0
    try clear hfz6_1
    obtain ⟨x6_1, x7_1, rfl, HA, HK1, HO_6, BK169, HB⟩ := hrel
    cases gk with
    | zero => exact absurd HA.out (by simp [impl_leastOf.l0])
    | succ k1 =>
     have H := HA.out
     clear HA
     simp only [impl_leastOf.l0] at H
     by_cases c9 : x7_1 < 2
     ·rw [if_pos c9] at H
      have c9b0 : decide (x7_1 < 2) = true := decide_eq_true c9
      clear c9
      replace H := Option.bind_eq_some_iff.mp H
      obtain ⟨t173, A100, H⟩ := H
      replace H : (if 0 ≤ (wrap64 (a0_0 + 1)) then (if (wrap64 (a0_0 + 1) : Int).toNat ≤ 35184372088832 then (impl_leastOf.l1 k1 l1 x6_1 x7_1 t173 (List.replicate (wrap64 (a0_0 + 1) : Int).toNat 0) 0 a0_0 l0_1) else (none)) else (none)) = some (r1, r2) := H
      have A10 := zA A100
      clear A100
      obtain ⟨ji11, hji11⟩ : ∃ j_ : Int, (wrap64 (a0_0 + 1)) = j_ := ⟨_, rfl⟩
      replace H : (if 0 ≤ (ji11) then (if (ji11 : Int).toNat ≤ 35184372088832 then (impl_leastOf.l1 k1 l1 x6_1 x7_1 t173 (List.replicate (ji11 : Int).toNat 0) 0 a0_0 l0_1) else (none)) else (none)) = some (r1, r2) := by first | (rw [hji11] at H; exact H) | (simp only [hji11] at H ⊢; exact H)
      (try rw [hji11] at A10)
      have hji11w : (IntKind.i64.wrap (a0_0 + 1)) = ji11 := (i64_w _).trans hji11
      by_cases c12 : 0 ≤ (ji11)
      ·rw [if_pos c12] at H
       have c12b0 := eq_true c12
       have c12b1 : decide (0 ≤ (ji11)) = true := decide_eq_true c12
       clear c12
       by_cases c13 : (ji11 : Int).toNat ≤ 35184372088832
       ·rw [if_pos c13] at H
        have c13b0 := eq_true c13
        have c13b1 : decide ((ji11 : Int).toNat ≤ 35184372088832) = true := decide_eq_true c13
        clear c13
        obtain ⟨y176, hy176⟩ : ∃ y_ : List Int, y_ = (List.replicate (ji11 : Int).toNat 0) := ⟨_, rfl⟩
        replace H : (impl_leastOf.l1 k1 l1 x6_1 x7_1 t173 y176 0 a0_0 l0_1) = some (r1, r2) := by first | (rw [hy176]; with_reducible exact H) | (have H2_ := (Option.bind_some _ _).symm.trans H; rw [hy176]; with_reducible exact H2_) | (have H2_ := (Option.bind_some _ _).symm.trans H; with_reducible exact H2_) | with_reducible exact H | (rw [hy176]; exact H) | exact H
        have Ny176 := zA hy176
        clear hy176
        have H' := zA H
        clear H
        have hcz14_0 : wr.cell? ⟨gb169, 0, none⟩ = some (.int .i64 a0_0) := (blk_cell BK169.out 0).trans rfl
        have hcz14_1 : wr.cell? ⟨gb169, 1, none⟩ = some (.slice A0_1 l0_1.length c0_1) := (blk_cell BK169.out 1).trans rfl
        have hfz14_0 := blk_frozen BK169.out 0
        have hfz14_1 := blk_frozen BK169.out 1
        go_wp2_with (first | ((with_reducible refine gate_callee (f := 48) rfl ?_); refine goesL_ (some 25) rfl rfl Try.func48 (by kernel_rfl) rfl #[.agg #[.int .i64 a0_0, .slice A0_1 l0_1.length c0_1], .int .i64 x7_1, .slice A1 l1.length c1] rfl (by (try simp only [List.map_toArray, List.map_cons, List.map_nil]); first | done | rfl | (simp only [List.length_drop, List.length_take]; rfl)) ?_; (with_reducible refine (impl_lows.calls k1 a0_0 _ _ l0_1 x7_1 _ _ l1 t173 _ ?side1 ?side2 ?side3 ?side4 A10.out).mono ?_); (case side1 => repeat (first | exact (Kd.C_below HR0_1.out HB.out) | (with_reducible refine zI ?_ _) | (with_reducible refine zH ?_ _) | (with_reducible refine Kd.C_drew ?_))); (case side2 => exact HC0_1.out); (case side3 => repeat (first | exact (Kd.C_below HR1.out HB.out) | (with_reducible refine zI ?_ _) | (with_reducible refine zH ?_ _) | (with_reducible refine Kd.C_drew ?_))); (case side4 => exact HC1.out); rintro e w15 ⟨v174, rfl, ho0, hb⟩; refine ⟨_, rfl, ?_⟩; have n0_ := zA (zL (bC_ HO_6) hb); have n1_ := zA (Kd.R_lower ho0 (zT (bB_ HB))); have n2_ := zA (zU (g := gb169) (o := .cells #[.int .i64 a0_0, .slice A0_1 l0_1.length c0_1] 25 (0, 0)) (bA_ BK169) hb); have n3_ := zA (below_step (bB_ HB) hb); clear HO_6; clear BK169; clear HB; have HO_6 := n0_; have HO175 := n1_; have BK169 := n2_; have HB := n3_; clear n0_ n1_ n2_ n3_; (try clear hb); (try clear hb2); (try clear hk); (try clear hi); (try clear ho0); have hcz16_0 : w15.cell? ⟨gb169, 0, none⟩ = some (.int .i64 a0_0) := (blk_cell BK169.out 0).trans rfl; have hcz16_1 : w15.cell? ⟨gb169, 1, none⟩ = some (.slice A0_1 l0_1.length c0_1) := (blk_cell BK169.out 1).trans rfl; have hfz16_0 := blk_frozen BK169.out 0; have hfz16_1 := blk_frozen BK169.out 1) | ((with_reducible refine gate_dst (N := 29) rfl ?_); refine Kd.R_make (Kd.int .i64) _ 3 rfl (N := 29) rfl 28 _ _ rfl ji11 rfl rfl Try.underlying28 (.int .i64 0) 8 info3 rfl (by decide) (by omega) 0 (ok := fun _ => True) (okp := fun _ => True) rfl (fun _ hk => hk) trivial (of_decide_eq_true (by first | (with_reducible assumption) | assumption)) (Nat.le_trans (Nat.mul_le_mul_right _ (of_decide_eq_true (by first | (with_reducible assumption) | assumption) : ji11.toNat ≤ 35184372088832)) (by omega)) (Below.refl _ _) (Nat.le_refl _) ?_; intro v177 w17 ho18 hb hg_ hnew_; clear hg_ hnew_; (first | rw [← Ny176.out] at ho18 | (simp only [Int.reduceToNat] at ho18; rw [← Ny176.out] at ho18)); have n0_ := zA (zL (bC_ HO_6) hb); have n1_ := zA (zL (bC_ HO175) hb); have n2_ := zA (Kd.R_lower ho18 (zT (bB_ HB))); have n3_ := zA (zU (g := gb169) (o := .cells #[.int .i64 a0_0, .slice A0_1 l0_1.length c0_1] 25 (0, 0)) (bA_ BK169) hb); have n4_ := zA (below_step (bB_ HB) hb); clear HO_6; clear HO175; clear BK169; clear HB; have HO_6 := n0_; have HO175 := n1_; have HO178 := n2_; have BK169 := n3_; have HB := n4_; clear n0_ n1_ n2_ n3_ n4_; clear hb ho18))
        go_loopg [10] k1 (fun kq v10 w' => ∃ (x9_2 : List Int) (x10_2 : Int), v10 = .int .i64 x10_2 ∧ Aside0 (impl_leastOf.l1 kq l1 x6_1 x7_1 t173 x9_2 x10_2 a0_0 l0_1 = some (r1, r2)) ∧ Aside0 (kq ≤ k1) ∧ Aside0 (Kd.R k48 48 w' w.heap.size (fun _ => True) v171 x6_1) ∧ Aside0 (Kd.R k81 81 w' w.heap.size (fun _ => True) v174 t173) ∧ Aside0 (Kd.R (Kd.int .i64) 3 w' w.heap.size (fun _ => True) v177 x9_2) ∧ Aside0 (w'.heap[gb169]? = some (.cells #[.int .i64 a0_0, (.slice A0_1 l0_1.length c0_1)] 25 (0, 0))) ∧ Aside0 (Below w.heap.size w w'))
        case atStart => exact ⟨(y176), (0), (by first | rfl | (simp; done) | (simp [*]; done)), H', ⟨Nat.le_refl _⟩, ⟨bC_ HO_6⟩, ⟨bC_ HO175⟩, ⟨bC_ HO178⟩, ⟨bA_ BK169⟩, ⟨bB_ HB⟩⟩
        case round =>
         clear H'
         try clear c1
         try clear p2
         try clear c3
         try clear c3b0
         try clear c3b1
         try clear c4
         try clear c4b0
         try clear c4b1
         try clear p6
         try clear c9
         try clear c9b0
         try clear c12
         try clear c12b0
         try clear c12b1
         try clear c13
         try clear c13b0
         try clear c13b1
         try clear hcz14_0
         try clear hcz14_1
         try clear hcz16_0
         try clear hcz16_1
         try clear hcz6_0
         try clear hcz6_1
         try clear hfz14_0
         try clear hfz14_1
         try clear hfz16_0
         try clear hfz16_1
         try clear hfz6_0
         try clear hfz6_1
         try clear p2
         obtain ⟨x9_2, x10_2, rfl, HA, HK2, HO_6, HO_8, HO_9, BK169, HB⟩ := hrel
         cases gk with
         | zero => exact absurd HA.out (by simp [impl_leastOf.l1])
         | succ k2 =>
          have H := HA.out
          clear HA
          simp only [impl_leastOf.l1] at H
          have H' := zA H
          clear H
          obtain ⟨Ao19, co19, eo19⟩ := Kd.R_slice HO_8.out
          subst eo19
          go_wp2
          go_loopg [11, 34] k2 (fun kq v11 v34 w' => ∃ (x9_3 : List Int) (x11_3 : Bool) (x34_3 : Int), v11 = .bool x11_3 ∧ v34 = .int .i64 x34_3 ∧ Aside0 (impl_leastOf.l2 kq l1 x6_1 x7_1 t173 x9_3 x10_2 x11_3 t173 (t173.length : Int) x34_3 a0_0 l0_1 = some (r1, r2)) ∧ Aside0 (kq ≤ k2) ∧ Aside0 (Kd.R k48 48 w' w.heap.size (fun _ => True) v171 x6_1) ∧ Aside0 (Kd.R k81 81 w' w.heap.size (fun _ => True) (.slice Ao19 t173.length co19) t173) ∧ Aside0 (Kd.R (Kd.int .i64) 3 w' w.heap.size (fun _ => True) v177 x9_3) ∧ Aside0 (Kd.R k81 81 w' w.heap.size (fun _ => True) (.slice Ao19 t173.length co19) t173) ∧ Aside0 (w'.heap[gb169]? = some (.cells #[.int .i64 a0_0, (.slice A0_1 l0_1.length c0_1)] 25 (0, 0))) ∧ Aside0 (Below w.heap.size w w'))
          case atStart => exact ⟨(x9_2), (false), (0), (by first | rfl | (simp; done) | (simp [*]; done)), (by first | rfl | (simp; done) | (simp [*]; done)), H', ⟨Nat.le_refl _⟩, ⟨bC_ HO_6⟩, ⟨bC_ HO_8⟩, ⟨bC_ HO_9⟩, ⟨bC_ HO_8⟩, ⟨bA_ BK169⟩, ⟨bB_ HB⟩⟩
          case round =>
           clear H'
           try clear c1
           try clear p2
           try clear c3
           try clear c3b0
           try clear c3b1
           try clear c4
           try clear c4b0
           try clear c4b1
           try clear p6
           try clear c9
           try clear c9b0
           try clear c12
           try clear c12b0
           try clear c12b1
           try clear c13
           try clear c13b0
           try clear c13b1
           try clear hcz14_0
           try clear hcz14_1
           try clear hcz16_0
           try clear hcz16_1
           try clear hcz6_0
           try clear hcz6_1
           try clear hfz14_0
           try clear hfz14_1
           try clear hfz16_0
           try clear hfz16_1
           try clear hfz6_0
           try clear hfz6_1
           try clear p2
           try clear p6
           obtain ⟨x9_3, x11_3, x34_3, rfl, rfl, HA, HK3, HO_6, HO_8, HO_9, HO_32, BK169, HB⟩ := hrel
           cases gk with
           | zero => exact absurd HA.out (by simp [impl_leastOf.l2])
           | succ k3 =>
            have H := HA.out
            clear HA
            simp only [impl_leastOf.l2] at H
            by_cases c20 : x34_3 < (t173.length : Int)
            ·rw [if_pos c20] at H
             have c20b0 : decide (x34_3 < (t173.length : Int)) = true := decide_eq_true c20
             clear c20
             by_cases c21 : 0 ≤ x34_3
             ·rw [if_pos c21] at H
              have c21b0 : decide (0 ≤ x34_3) = true := decide_eq_true c21
              clear c21
              by_cases c22 : x34_3 < (t173.length : Int)
              ·rw [if_pos c22] at H
               have c22b0 : decide (x34_3 < (t173.length : Int)) = true := decide_eq_true c22
               clear c22
               by_cases c23 : 0 ≤ ((rd_T81 t173 x34_3).f0)
               ·rw [if_pos c23] at H
                have c23b0 : decide (0 ≤ ((rd_T81 t173 x34_3).f0)) = true := decide_eq_true c23
                clear c23
                by_cases c24 : ((rd_T81 t173 x34_3).f0) < (x9_3.length : Int)
                ·rw [if_pos c24] at H
                 have c24b0 : decide (((rd_T81 t173 x34_3).f0) < (x9_3.length : Int)) = true := decide_eq_true c24
                 clear c24
                 by_cases c25 : 0 ≤ ((rd_T81 t173 x34_3).f1)
                 ·rw [if_pos c25] at H
                  have c25b0 : decide (0 ≤ ((rd_T81 t173 x34_3).f1)) = true := decide_eq_true c25
                  clear c25
                  by_cases c26 : ((rd_T81 t173 x34_3).f1) < (x9_3.length : Int)
                  ·rw [if_pos c26] at H
                   have c26b0 : decide (((rd_T81 t173 x34_3).f1) < (x9_3.length : Int)) = true := decide_eq_true c26
                   clear c26
                   by_cases c27 : (wrap64 ((rd x9_3 ((rd_T81 t173 x34_3).f0)) + ((rd_T81 t173 x34_3).f2))) > (rd x9_3 ((rd_T81 t173 x34_3).f1))
                   ·rw [if_pos c27] at H
                    have c27b0 : decide ((rd x9_3 ((rd_T81 t173 x34_3).f1)) < (wrap64 ((rd x9_3 ((rd_T81 t173 x34_3).f0)) + ((rd_T81 t173 x34_3).f2)))) = true := decide_eq_true c27
                    clear c27
                    obtain ⟨y184, hy184⟩ : ∃ y_ : List Int, y_ = (x9_3.set (((rd_T81 t173 x34_3).f1) : Int).toNat (wrap64 ((rd x9_3 ((rd_T81 t173 x34_3).f0)) + ((rd_T81 t173 x34_3).f2)))) := ⟨_, rfl⟩
                    replace H : (impl_leastOf.l2 k3 l1 x6_1 x7_1 t173 y184 x10_2 true t173 (t173.length : Int) (wrap64 (x34_3 + 1)) a0_0 l0_1) = some (r1, r2) := by first | (rw [hy184]; with_reducible exact H) | (have H2_ := (Option.bind_some _ _).symm.trans H; rw [hy184]; with_reducible exact H2_) | (have H2_ := (Option.bind_some _ _).symm.trans H; with_reducible exact H2_) | with_reducible exact H | (rw [hy184]; exact H) | exact H
                    have Ny184 := zA hy184
                    clear hy184
                    have H' := zA H
                    clear H
                    have p179 : 0 ≤ (x34_3 : Int) := of_decide_eq_true (by first | (with_reducible assumption) | assumption)
                    have q179 : x34_3 < (t173.length : Int) := of_decide_eq_true (by first | (with_reducible assumption) | assumption)
                    obtain ⟨ad179, e179, hx179_0, hx179_1, hx179_2⟩ := at_T81 (zK HO_32.out).2.2 x34_3 p179 q179
                    cases e179
                    replace p179 := eq_true p179
                    replace q179 := eq_true q179
                    try go_wp2_with (first | ((with_reducible refine gate_dst (N := 13) rfl ?_); refine box_event ?hg (N := 13) ?hd (cs := #[.int .i64 0, .int .i64 0, .int .i64 0]) (t := 81) ?hr ?_; (case hd => rfl); (case hg => rfl); (case hr => first | (go_simp; done) | (go_simp; rfl)); intro gb180 hg w29 hbox hb; have n0_ := zA (zL (bC_ HO_6) hb); have n1_ := zA (zL (Kd.R_elderB (bC_ HO_8) gb180 (Nat.le_of_eq hg.symm)) hb); have n2_ := zA (zL (bC_ HO_9) hb); have n3_ := zA (zL (Kd.R_elderB (bC_ HO_32) gb180 (Nat.le_of_eq hg.symm)) hb); have n4_ := zA (zU (g := gb169) (o := .cells #[.int .i64 a0_0, .slice A0_1 l0_1.length c0_1] 25 (0, 0)) (bA_ BK169) hb); have n5_ := zA (below_step (bB_ HB) hb); have n6_ := zA (hbox); have n7_ := zA ((by rw [hg]; exact (zT (bB_ HB)) : w.heap.size ≤ gb180)); have n8_ := zA ((by rw [hg]; exact (zT (bB_ HB)) : w.heap.size ≤ gb180)); have n9_ := zA ((by rw [hg]; exact Nat.ne_of_lt (blk_lt (g := gb169) (o := .cells #[.int .i64 a0_0, .slice A0_1 l0_1.length c0_1] 25 (0, 0)) (bA_ BK169)) : gb169 ≠ gb180)); have n10_ := zA ((by rw [hg]; exact Nat.ne_of_gt (blk_lt (g := gb169) (o := .cells #[.int .i64 a0_0, .slice A0_1 l0_1.length c0_1] 25 (0, 0)) (bA_ BK169)) : gb180 ≠ gb169)); clear HO_6; clear HO_8; clear HO_9; clear HO_32; clear BK169; clear HB; have HO_6 := n0_; have HO_8 := n1_; have HO_9 := n2_; have HO_32 := n3_; have BK169 := n4_; have HB := n5_; have BK180 := n6_; have GW180 := n7_; have GE180 := n8_; have NB169_180 := n9_; have NB180_169 := n10_; clear n0_ n1_ n2_ n3_ n4_ n5_ n6_ n7_ n8_ n9_ n10_; clear hb hbox hg; have hnb30 := NB180_169.out; have hnc30 := NB169_180.out; have hcz31_0 : w29.cell? ⟨gb180, 0, none⟩ = some (.int .i64 0) := (blk_cell BK180.out 0).trans rfl; have hcz31_1 : w29.cell? ⟨gb180, 1, none⟩ = some (.int .i64 0) := (blk_cell BK180.out 1).trans rfl; have hcz31_2 : w29.cell? ⟨gb180, 2, none⟩ = some (.int .i64 0) := (blk_cell BK180.out 2).trans rfl; have hfz31_0 := blk_frozen BK180.out 0; have hfz31_1 := blk_frozen BK180.out 1; have hfz31_2 := blk_frozen BK180.out 2))
                    have n0_ : Aside0 (Kd.R k48 48 (((w29.setCell ⟨gb180, 0, none⟩ (.int .i64 ((rd_T81 t173 x34_3).f0))).setCell ⟨gb180, 1, none⟩ (.int .i64 ((rd_T81 t173 x34_3).f1))).setCell ⟨gb180, 2, none⟩ (.int .i64 ((rd_T81 t173 x34_3).f2))) w.heap.size (fun _ => True) v171 x6_1) := ⟨by (with_reducible repeat (first | apply zF | apply zE | apply zG)); exact Kd.R_mono (Kd.R_far (p := ⟨gb180, 2, none⟩) (Kd.R_far (p := ⟨gb180, 1, none⟩) (Kd.R_far (p := ⟨gb180, 0, none⟩) (Kd.R_types HO_6.out BK180.out (by decide)) (fun _ hk => hk.2) (.int .i64 ((rd_T81 t173 x34_3).f0))) (fun _ hk => hk.2) (.int .i64 ((rd_T81 t173 x34_3).f1))) (fun _ hk => hk.2) (.int .i64 ((rd_T81 t173 x34_3).f2))) (fun _ hk => trivial)⟩
                    have n1_ : Aside0 (Kd.R k81 81 (((w29.setCell ⟨gb180, 0, none⟩ (.int .i64 ((rd_T81 t173 x34_3).f0))).setCell ⟨gb180, 1, none⟩ (.int .i64 ((rd_T81 t173 x34_3).f1))).setCell ⟨gb180, 2, none⟩ (.int .i64 ((rd_T81 t173 x34_3).f2))) w.heap.size (fun k_ => k_ ≠ gb180) (.slice (some ad179) t173.length co19) t173) := ⟨by (with_reducible repeat (first | apply zF | apply zE | apply zG)); exact Kd.R_mono (Kd.R_far (p := ⟨gb180, 2, none⟩) (Kd.R_far (p := ⟨gb180, 1, none⟩) (Kd.R_far (p := ⟨gb180, 0, none⟩) (Kd.R_mono HO_8.out (fun k_ hk => (⟨hk, hk.2⟩ : _ ∧ k_ ≠ gb180))) (fun _ hk => hk.2) (.int .i64 ((rd_T81 t173 x34_3).f0))) (fun _ hk => hk.2) (.int .i64 ((rd_T81 t173 x34_3).f1))) (fun _ hk => hk.2) (.int .i64 ((rd_T81 t173 x34_3).f2))) (fun _ hk => hk.1.2)⟩
                    have n2_ : Aside0 (Kd.R (Kd.int .i64) 3 (((w29.setCell ⟨gb180, 0, none⟩ (.int .i64 ((rd_T81 t173 x34_3).f0))).setCell ⟨gb180, 1, none⟩ (.int .i64 ((rd_T81 t173 x34_3).f1))).setCell ⟨gb180, 2, none⟩ (.int .i64 ((rd_T81 t173 x34_3).f2))) w.heap.size (fun _ => True) v177 x9_3) := ⟨by (with_reducible repeat (first | apply zF | apply zE | apply zG)); exact Kd.R_mono (Kd.R_far (p := ⟨gb180, 2, none⟩) (Kd.R_far (p := ⟨gb180, 1, none⟩) (Kd.R_far (p := ⟨gb180, 0, none⟩) (Kd.R_types HO_9.out BK180.out (by decide)) (fun _ hk => hk.2) (.int .i64 ((rd_T81 t173 x34_3).f0))) (fun _ hk => hk.2) (.int .i64 ((rd_T81 t173 x34_3).f1))) (fun _ hk => hk.2) (.int .i64 ((rd_T81 t173 x34_3).f2))) (fun _ hk => trivial)⟩
                    have n3_ : Aside0 (Kd.R k81 81 (((w29.setCell ⟨gb180, 0, none⟩ (.int .i64 ((rd_T81 t173 x34_3).f0))).setCell ⟨gb180, 1, none⟩ (.int .i64 ((rd_T81 t173 x34_3).f1))).setCell ⟨gb180, 2, none⟩ (.int .i64 ((rd_T81 t173 x34_3).f2))) w.heap.size (fun k_ => k_ ≠ gb180) (.slice (some ad179) t173.length co19) t173) := ⟨by (with_reducible repeat (first | apply zF | apply zE | apply zG)); exact Kd.R_mono (Kd.R_far (p := ⟨gb180, 2, none⟩) (Kd.R_far (p := ⟨gb180, 1, none⟩) (Kd.R_far (p := ⟨gb180, 0, none⟩) (Kd.R_mono HO_32.out (fun k_ hk => (⟨hk, hk.2⟩ : _ ∧ k_ ≠ gb180))) (fun _ hk => hk.2) (.int .i64 ((rd_T81 t173 x34_3).f0))) (fun _ hk => hk.2) (.int .i64 ((rd_T81 t173 x34_3).f1))) (fun _ hk => hk.2) (.int .i64 ((rd_T81 t173 x34_3).f2))) (fun _ hk => hk.1.2)⟩
                    have n4_ : Aside0 ((((w29.setCell ⟨gb180, 0, none⟩ (.int .i64 ((rd_T81 t173 x34_3).f0))).setCell ⟨gb180, 1, none⟩ (.int .i64 ((rd_T81 t173 x34_3).f1))).setCell ⟨gb180, 2, none⟩ (.int .i64 ((rd_T81 t173 x34_3).f2))).heap[gb169]? = some (.cells #[.int .i64 a0_0, .slice A0_1 l0_1.length c0_1] 25 (0, 0))) := ⟨bD_ BK169⟩
                    have n5_ : Aside0 ((((w29.setCell ⟨gb180, 0, none⟩ (.int .i64 ((rd_T81 t173 x34_3).f0))).setCell ⟨gb180, 1, none⟩ (.int .i64 ((rd_T81 t173 x34_3).f1))).setCell ⟨gb180, 2, none⟩ (.int .i64 ((rd_T81 t173 x34_3).f2))).heap[gb180]? = some (.cells #[.int .i64 ((rd_T81 t173 x34_3).f0), .int .i64 ((rd_T81 t173 x34_3).f1), .int .i64 ((rd_T81 t173 x34_3).f2)] 81 (0, 0))) := ⟨by (with_reducible repeat (first | refine zM ?_ _ | refine zN ?_ | refine zO ?_ _)); refine blk_put (cs := #[.int .i64 ((rd_T81 t173 x34_3).f0), .int .i64 ((rd_T81 t173 x34_3).f1), .int .i64 0]) ?_ 2 _ rfl; (with_reducible repeat (first | refine zM ?_ _ | refine zN ?_ | refine zO ?_ _)); refine blk_put (cs := #[.int .i64 ((rd_T81 t173 x34_3).f0), .int .i64 0, .int .i64 0]) ?_ 1 _ rfl; (with_reducible repeat (first | refine zM ?_ _ | refine zN ?_ | refine zO ?_ _)); refine blk_put (cs := #[.int .i64 0, .int .i64 0, .int .i64 0]) ?_ 0 _ rfl; (with_reducible repeat (first | refine zM ?_ _ | refine zN ?_ | refine zO ?_ _)); exact BK180.out⟩
                    have n6_ : Aside0 (Below w.heap.size w (((w29.setCell ⟨gb180, 0, none⟩ (.int .i64 ((rd_T81 t173 x34_3).f0))).setCell ⟨gb180, 1, none⟩ (.int .i64 ((rd_T81 t173 x34_3).f1))).setCell ⟨gb180, 2, none⟩ (.int .i64 ((rd_T81 t173 x34_3).f2)))) := ⟨bB_ HB⟩
                    (try clear HO_6)
                    (try clear HO_8)
                    (try clear HO_9)
                    (try clear HO_32)
                    (try clear BK169)
                    (try clear BK180)
                    (try clear HB)
                    generalize (((w29.setCell ⟨gb180, 0, none⟩ (.int .i64 ((rd_T81 t173 x34_3).f0))).setCell ⟨gb180, 1, none⟩ (.int .i64 ((rd_T81 t173 x34_3).f1))).setCell ⟨gb180, 2, none⟩ (.int .i64 ((rd_T81 t173 x34_3).f2))) = w32 at n0_ n1_ n2_ n3_ n4_ n5_ n6_ ⊢
                    have HO_6 := n0_
                    have HO_8 := n1_
                    have HO_9 := n2_
                    have HO_32 := n3_
                    have BK169 := n4_
                    have BK180 := n5_
                    have HB := n6_
                    clear n0_ n1_ n2_ n3_ n4_ n5_ n6_
                    have n0_ := zA (zG HO_6.out)
                    have n1_ := zA (zG HO_8.out)
                    have n2_ := zA (zG HO_9.out)
                    have n3_ := zA (zG HO_32.out)
                    have n4_ := zA (zN BK169.out)
                    have n5_ := zA (zN BK180.out)
                    have n6_ := zA (zQ HB.out)
                    clear HO_6
                    clear HO_8
                    clear HO_9
                    clear HO_32
                    clear BK169
                    clear BK180
                    clear HB
                    have HO_6 := n0_
                    have HO_8 := n1_
                    have HO_9 := n2_
                    have HO_32 := n3_
                    have BK169 := n4_
                    have BK180 := n5_
                    have HB := n6_
                    clear n0_ n1_ n2_ n3_ n4_ n5_ n6_
                    obtain ⟨Ao34, co34, eo34⟩ := Kd.R_slice HO_9.out
                    (first | subst eo34 | (injection eo34 with f1_ f2_ f3_; have f4_ := f1_.symm; have f5_ := f3_.symm; clear f1_ f2_ f3_; subst f4_; subst f5_))
                    have p181 : 0 ≤ (((rd_T81 t173 x34_3).f0) : Int) := of_decide_eq_true (by first | (with_reducible assumption) | assumption)
                    have q181 : ((rd_T81 t173 x34_3).f0) < (x9_3.length : Int) := of_decide_eq_true (by first | (with_reducible assumption) | assumption)
                    obtain ⟨ad181, e181, hx181_0⟩ := Kd.at_int (zK HO_9.out).2.2 ((rd_T81 t173 x34_3).f0) p181 q181
                    cases e181
                    replace p181 := eq_true p181
                    replace q181 := eq_true q181
                    have p182 : 0 ≤ (((rd_T81 t173 x34_3).f1) : Int) := of_decide_eq_true (by first | (with_reducible assumption) | assumption)
                    have q182 : ((rd_T81 t173 x34_3).f1) < (x9_3.length : Int) := of_decide_eq_true (by first | (with_reducible assumption) | assumption)
                    obtain ⟨ad182, e182, hx182_0⟩ := Kd.at_int (zK HO_9.out).2.2 ((rd_T81 t173 x34_3).f1) p182 q182
                    obtain rfl : ad181 = ad182 := (by injection e182)
                    replace p182 := eq_true p182
                    replace q182 := eq_true q182
                    refine start_ (n := 14) (S := fun w' => w'.cell? ⟨gb180, 0, none⟩ = some (.int .i64 ((rd_T81 t173 x34_3).f0)) ∧ w'.cell? ⟨gb180, 1, none⟩ = some (.int .i64 ((rd_T81 t173 x34_3).f1)) ∧ w'.cell? ⟨gb180, 2, none⟩ = some (.int .i64 ((rd_T81 t173 x34_3).f2)) ∧ w'.cell? (ad181.add (((rd_T81 t173 x34_3).f0)).toNat) = some (.int .i64 (rd x9_3 ((rd_T81 t173 x34_3).f0))) ∧ w'.cell? (ad181.add (((rd_T81 t173 x34_3).f1)).toNat) = some (.int .i64 (rd x9_3 ((rd_T81 t173 x34_3).f1)))) (ds := []) #[false, false, false, false, false, false, false, false, false, false, false, false, false, false] (by kernel_rfl) rfl rfl ⟨(blk_cell BK180.out 0).trans rfl, (blk_cell BK180.out 1).trans rfl, (blk_cell BK180.out 2).trans rfl, hx181_0, hx182_0⟩ (fun hHeld => ?_); refine with_tabW impl_leastOf.tab13 impl_leastOf.bits13 (fun HT_ HW_ => ?_)
                    generalize w32.drew = w33 at HO_6 HO_8 HO_9 HO_32 BK169 BK180 HB hx181_0 hx182_0 hHeld ⊢
                    refine pure_ (i := 0) (N := some 38) (v := ?_) (a' := ?_) #[true, false, false, false, false, false, false, false, false, false, false, false, false, false] rfl rfl (any_of HT_.out (by kernel_rfl)) (fun _ _ _ h => h) (Or.inl ⟨by rfl, ?_⟩) ?_ ?_
                    rotate_left
                    ·intro w'
                     go_simp
                     with_reducible rfl
                    rotate_left
                    ·simp only [Act.put, zB, zC, zD, i64_w, i32_w]
                     rfl
                    refine pure_ (i := 1) (N := some 39) (v := ?_) (a' := ?_) #[true, true, false, false, false, false, false, false, false, false, false, false, false, false] rfl rfl (any_of HT_.out (by kernel_rfl)) (fun _ _ _ h => h) (Or.inl ⟨by rfl, ?_⟩) ?_ ?_
                    rotate_left
                    ·intro w'
                     go_simp
                     with_reducible rfl
                    rotate_left
                    ·simp only [Act.put, zB, zC, zD, i64_w, i32_w]
                     rfl
                    refine pure_ (i := 5) (N := some 43) (v := ?_) (a' := ?_) #[true, true, false, false, false, true, false, false, false, false, false, false, false, false] rfl rfl (any_of HT_.out (by kernel_rfl)) (fun _ _ _ h => h) (Or.inl ⟨by rfl, ?_⟩) ?_ ?_
                    rotate_left
                    ·intro w'
                     go_simp
                     with_reducible rfl
                    rotate_left
                    ·simp only [Act.put, zB, zC, zD, i64_w, i32_w]
                     rfl
                    refine pure_ (i := 8) (N := some 46) (v := ?_) (a' := ?_) #[true, true, false, false, false, true, false, false, true, false, false, false, false, false] rfl rfl (any_of HT_.out (by kernel_rfl)) (fun _ _ _ h => h) (Or.inl ⟨by rfl, ?_⟩) ?_ ?_
                    rotate_left
                    ·intro w'
                     go_simp
                     with_reducible rfl
                    rotate_left
                    ·simp only [Act.put, zB, zC, zD, i64_w, i32_w]
                     rfl
                    refine pure_ (i := 9) (N := some 47) (v := ?_) (a' := ?_) #[true, true, false, false, false, true, false, false, true, true, false, false, false, false] rfl rfl (any_of HT_.out (by kernel_rfl)) (fun _ _ _ h => h) (Or.inl ⟨by rfl, ?_⟩) ?_ ?_
                    rotate_left
                    ·intro w'
                     go_simp
                     with_reducible rfl
                    rotate_left
                    ·simp only [Act.put, zB, zC, zD, i64_w, i32_w]
                     rfl
                    refine take_ (i := 2) (N := some 40) (v := ?_) (a' := ?_) #[true, true, true, false, false, true, false, false, true, true, false, false, false, false] rfl rfl (take_ofW HT_.out HW_.out (by kernel_rfl)) (fun _ _ _ h => h) (Or.inl ⟨by rfl, ?_⟩) hHeld ?_ ?_
                    rotate_left
                    ·rintro w' ⟨s0, s1, s2, s3, s4⟩
                     go_simp
                     with_reducible rfl
                    rotate_left
                    ·simp only [Act.put, zB, zC, zD, i64_w, i32_w]
                     rfl
                    refine pure_ (i := 3) (N := some 41) (v := ?_) (a' := ?_) #[true, true, true, true, false, true, false, false, true, true, false, false, false, false] rfl rfl (any_of HT_.out (by kernel_rfl)) (fun _ _ _ h => h) (Or.inl ⟨by rfl, ?_⟩) ?_ ?_
                    rotate_left
                    ·intro w'
                     go_simp
                     with_reducible rfl
                    rotate_left
                    ·simp only [Act.put, zB, zC, zD, i64_w, i32_w]
                     rfl
                    refine take_ (i := 4) (N := some 42) (v := ?_) (a' := ?_) #[true, true, true, true, true, true, false, false, true, true, false, false, false, false] rfl rfl (take_ofW HT_.out HW_.out (by kernel_rfl)) (fun _ _ _ h => h) (Or.inl ⟨by rfl, ?_⟩) hHeld ?_ ?_
                    rotate_left
                    ·rintro w' ⟨s0, s1, s2, s3, s4⟩
                     go_simp
                     with_reducible rfl
                    rotate_left
                    ·simp only [Act.put, zB, zC, zD, i64_w, i32_w]
                     rfl
                    refine take_ (i := 6) (N := some 44) (v := ?_) (a' := ?_) #[true, true, true, true, true, true, true, false, true, true, false, false, false, false] rfl rfl (take_ofW HT_.out HW_.out (by kernel_rfl)) (fun _ _ _ h => h) (Or.inl ⟨by rfl, ?_⟩) hHeld ?_ ?_
                    rotate_left
                    ·rintro w' ⟨s0, s1, s2, s3, s4⟩
                     go_simp
                     with_reducible rfl
                    rotate_left
                    ·simp only [Act.put, zB, zC, zD, i64_w, i32_w]
                     rfl
                    refine pure_ (i := 7) (N := some 45) (v := ?_) (a' := ?_) #[true, true, true, true, true, true, true, true, true, true, false, false, false, false] rfl rfl (any_of HT_.out (by kernel_rfl)) (fun _ _ _ h => h) (Or.inl ⟨by rfl, ?_⟩) ?_ ?_
                    rotate_left
                    ·intro w'
                     go_simp
                     with_reducible rfl
                    rotate_left
                    ·simp only [Act.put, zB, zC, zD, i64_w, i32_w]
                     rfl
                    refine take_ (i := 10) (N := some 48) (v := ?_) (a' := ?_) #[true, true, true, true, true, true, true, true, true, true, true, false, false, false] rfl rfl (take_ofW HT_.out HW_.out (by kernel_rfl)) (fun _ _ _ h => h) (Or.inl ⟨by rfl, ?_⟩) hHeld ?_ ?_
                    rotate_left
                    ·rintro w' ⟨s0, s1, s2, s3, s4⟩
                     go_simp
                     with_reducible rfl
                    rotate_left
                    ·simp only [Act.put, zB, zC, zD, i64_w, i32_w]
                     rfl
                    refine pure_ (i := 11) (N := some 49) (v := ?_) (a' := ?_) #[true, true, true, true, true, true, true, true, true, true, true, true, false, false] rfl rfl (any_of HT_.out (by kernel_rfl)) (fun _ _ _ h => h) (Or.inl ⟨by rfl, ?_⟩) ?_ ?_
                    rotate_left
                    ·intro w'
                     go_simp
                     with_reducible rfl
                    rotate_left
                    ·simp only [Act.put, zB, zC, zD, i64_w, i32_w]
                     rfl
                    refine take_ (i := 12) (N := some 50) (v := ?_) (a' := ?_) #[true, true, true, true, true, true, true, true, true, true, true, true, true, false] rfl rfl (take_ofW HT_.out HW_.out (by kernel_rfl)) (fun _ _ _ h => h) (Or.inl ⟨by rfl, ?_⟩) hHeld ?_ ?_
                    rotate_left
                    ·rintro w' ⟨s0, s1, s2, s3, s4⟩
                     go_simp
                     with_reducible rfl
                    rotate_left
                    ·simp only [Act.put, zB, zC, zD, i64_w, i32_w]
                     rfl
                    refine pure_ (i := 13) (N := some 51) (v := ?_) (a' := ?_) #[true, true, true, true, true, true, true, true, true, true, true, true, true, true] rfl rfl (any_of HT_.out (by kernel_rfl)) (fun _ _ _ h => h) (Or.inl ⟨by rfl, ?_⟩) ?_ ?_
                    rotate_left
                    ·intro w'
                     go_simp
                     with_reducible rfl
                    rotate_left
                    ·simp only [Act.put, zB, zC, zD, i64_w, i32_w]
                     rfl
                    refine done_ (done_of HT_.out (by kernel_rfl)) ?_
                    try go_wp2
                    have n0_ := zA (zG HO_6.out)
                    have n1_ := zA (zG HO_8.out)
                    have n2_ := zA (zG HO_9.out)
                    have n3_ := zA (zG HO_32.out)
                    have n4_ := zA (zN BK169.out)
                    have n5_ := zA (zN BK180.out)
                    have n6_ := zA (zQ HB.out)
                    clear HO_6
                    clear HO_8
                    clear HO_9
                    clear HO_32
                    clear BK169
                    clear BK180
                    clear HB
                    have HO_6 := n0_
                    have HO_8 := n1_
                    have HO_9 := n2_
                    have HO_32 := n3_
                    have BK169 := n4_
                    have BK180 := n5_
                    have HB := n6_
                    clear n0_ n1_ n2_ n3_ n4_ n5_ n6_
                    have p183 : 0 ≤ (((rd_T81 t173 x34_3).f0) : Int) := of_decide_eq_true (by first | (with_reducible assumption) | assumption)
                    have q183 : ((rd_T81 t173 x34_3).f0) < (x9_3.length : Int) := of_decide_eq_true (by first | (with_reducible assumption) | assumption)
                    obtain ⟨ad183, e183, hx183_0⟩ := Kd.at_int (zK HO_9.out).2.2 ((rd_T81 t173 x34_3).f0) p183 q183
                    obtain rfl : ad181 = ad183 := (by injection e183)
                    replace p183 := eq_true p183
                    replace q183 := eq_true q183
                    have p28 : 0 ≤ (((rd_T81 t173 x34_3).f1) : Int) := of_decide_eq_true (by first | (with_reducible assumption) | assumption)
                    have q28 : (((rd_T81 t173 x34_3).f1) : Int) < ((x9_3.length : Int) : Int) := of_decide_eq_true (by first | (with_reducible assumption) | assumption)
                    obtain ⟨go28, co28, eo28, gb28, gl28, cl28, HG28⟩ := Kd.R_form HO_9.out (by omega)
                    (first | cases eo28 | (injection eo28 with ea_ en_ ec_; (first | subst ea_ | (injection ea_ with ea_; subst ea_)); subst ec_; clear en_))
                    have GB28 := zA gb28
                    have GG28 := zA HG28
                    clear gb28 gl28 HG28
                    (first | simp only [add_plain] at hx181_0 | skip)
                    (first | simp only [add_plain] at hx182_0 | skip)
                    (first | simp only [add_plain] at hx183_0 | skip)
                    obtain ⟨hx28_0, hf28_0⟩ := Kd.R_celln 0 HO_9.out (((rd_T81 t173 x34_3).f1) : Int) p28 q28
                    replace p28 := eq_true p28
                    replace q28 := eq_true q28
                    have HP36 := Kd.R_putn HO_9.out (((rd_T81 t173 x34_3).f1) : Int) (wrap64 ((rd x9_3 ((rd_T81 t173 x34_3).f0)) + ((rd_T81 t173 x34_3).f2)))
                    rw [← Ny184.out] at HP36
                    have HQ36 := zA HP36
                    clear HP36
                    refine start_ (n := 13) (S := fun w' => w'.cell? ⟨gb180, 0, none⟩ = some (.int .i64 ((rd_T81 t173 x34_3).f0)) ∧ w'.cell? ⟨gb180, 1, none⟩ = some (.int .i64 ((rd_T81 t173 x34_3).f1)) ∧ w'.cell? ⟨gb180, 2, none⟩ = some (.int .i64 ((rd_T81 t173 x34_3).f2)) ∧ w'.cell? ⟨go28, (((rd_T81 t173 x34_3).f0)).toNat, none⟩ = some (.int .i64 (rd x9_3 ((rd_T81 t173 x34_3).f0)))) (ds := [12]) #[false, false, false, false, false, false, false, false, false, false, false, false, false] (by kernel_rfl) rfl rfl ⟨(blk_cell BK180.out 0).trans rfl, (blk_cell BK180.out 1).trans rfl, (blk_cell BK180.out 2).trans rfl, hx183_0⟩ (fun hHeld => ?_); refine with_tabW impl_leastOf.tab14 impl_leastOf.bits14 (fun HT_ HW_ => ?_)
                    generalize w33.drew = w35 at HO_6 HO_8 HO_9 HO_32 BK169 BK180 HB GG28 HQ36 hf28_0 hx181_0 hx182_0 hx183_0 hx28_0 hHeld ⊢
                    refine pure_ (i := 0) (N := some 52) (v := ?_) (a' := ?_) #[true, false, false, false, false, false, false, false, false, false, false, false, false] rfl rfl (any_of HT_.out (by kernel_rfl)) (fun _ _ _ h => h) (Or.inl ⟨by rfl, ?_⟩) ?_ ?_
                    rotate_left
                    ·intro w'
                     go_simp
                     with_reducible rfl
                    rotate_left
                    ·simp only [Act.put, zB, zC, zD, i64_w, i32_w]
                     rfl
                    refine pure_ (i := 1) (N := some 53) (v := ?_) (a' := ?_) #[true, true, false, false, false, false, false, false, false, false, false, false, false] rfl rfl (any_of HT_.out (by kernel_rfl)) (fun _ _ _ h => h) (Or.inl ⟨by rfl, ?_⟩) ?_ ?_
                    rotate_left
                    ·intro w'
                     go_simp
                     with_reducible rfl
                    rotate_left
                    ·simp only [Act.put, zB, zC, zD, i64_w, i32_w]
                     rfl
                    refine pure_ (i := 3) (N := some 55) (v := ?_) (a' := ?_) #[true, true, false, true, false, false, false, false, false, false, false, false, false] rfl rfl (any_of HT_.out (by kernel_rfl)) (fun _ _ _ h => h) (Or.inl ⟨by rfl, ?_⟩) ?_ ?_
                    rotate_left
                    ·intro w'
                     go_simp
                     with_reducible rfl
                    rotate_left
                    ·simp only [Act.put, zB, zC, zD, i64_w, i32_w]
                     rfl
                    refine pure_ (i := 4) (N := some 56) (v := ?_) (a' := ?_) #[true, true, false, true, true, false, false, false, false, false, false, false, false] rfl rfl (any_of HT_.out (by kernel_rfl)) (fun _ _ _ h => h) (Or.inl ⟨by rfl, ?_⟩) ?_ ?_
                    rotate_left
                    ·intro w'
                     go_simp
                     with_reducible rfl
                    rotate_left
                    ·simp only [Act.put, zB, zC, zD, i64_w, i32_w]
                     rfl
                    refine pure_ (i := 8) (N := some 60) (v := ?_) (a' := ?_) #[true, true, false, true, true, false, false, false, true, false, false, false, false] rfl rfl (any_of HT_.out (by kernel_rfl)) (fun _ _ _ h => h) (Or.inl ⟨by rfl, ?_⟩) ?_ ?_
                    rotate_left
                    ·intro w'
                     go_simp
                     with_reducible rfl
                    rotate_left
                    ·simp only [Act.put, zB, zC, zD, i64_w, i32_w]
                     rfl
                    refine take_ (i := 2) (N := some 54) (v := ?_) (a' := ?_) #[true, true, true, true, true, false, false, false, true, false, false, false, false] rfl rfl (take_ofW HT_.out HW_.out (by kernel_rfl)) (fun _ _ _ h => h) (Or.inl ⟨by rfl, ?_⟩) hHeld ?_ ?_
                    rotate_left
                    ·rintro w' ⟨s0, s1, s2, s3⟩
                     go_simp
                     with_reducible rfl
                    rotate_left
                    ·simp only [Act.put, zB, zC, zD, i64_w, i32_w]
                     rfl
                    refine take_ (i := 5) (N := some 57) (v := ?_) (a' := ?_) #[true, true, true, true, true, true, false, false, true, false, false, false, false] rfl rfl (take_ofW HT_.out HW_.out (by kernel_rfl)) (fun _ _ _ h => h) (Or.inl ⟨by rfl, ?_⟩) hHeld ?_ ?_
                    rotate_left
                    ·rintro w' ⟨s0, s1, s2, s3⟩
                     go_simp
                     with_reducible rfl
                    rotate_left
                    ·simp only [Act.put, zB, zC, zD, i64_w, i32_w]
                     rfl
                    refine pure_ (i := 6) (N := some 58) (v := ?_) (a' := ?_) #[true, true, true, true, true, true, true, false, true, false, false, false, false] rfl rfl (any_of HT_.out (by kernel_rfl)) (fun _ _ _ h => h) (Or.inl ⟨by rfl, ?_⟩) ?_ ?_
                    rotate_left
                    ·intro w'
                     go_simp
                     with_reducible rfl
                    rotate_left
                    ·simp only [Act.put, zB, zC, zD, i64_w, i32_w]
                     rfl
                    refine take_ (i := 7) (N := some 59) (v := ?_) (a' := ?_) #[true, true, true, true, true, true, true, true, true, false, false, false, false] rfl rfl (take_ofW HT_.out HW_.out (by kernel_rfl)) (fun _ _ _ h => h) (Or.inl ⟨by rfl, ?_⟩) hHeld ?_ ?_
                    rotate_left
                    ·rintro w' ⟨s0, s1, s2, s3⟩
                     go_simp
                     with_reducible rfl
                    rotate_left
                    ·simp only [Act.put, zB, zC, zD, i64_w, i32_w]
                     rfl
                    refine take_ (i := 9) (N := some 61) (v := ?_) (a' := ?_) #[true, true, true, true, true, true, true, true, true, true, false, false, false] rfl rfl (take_ofW HT_.out HW_.out (by kernel_rfl)) (fun _ _ _ h => h) (Or.inl ⟨by rfl, ?_⟩) hHeld ?_ ?_
                    rotate_left
                    ·rintro w' ⟨s0, s1, s2, s3⟩
                     go_simp
                     with_reducible rfl
                    rotate_left
                    ·simp only [Act.put, zB, zC, zD, i64_w, i32_w]
                     rfl
                    refine pure_ (i := 10) (N := some 62) (v := ?_) (a' := ?_) #[true, true, true, true, true, true, true, true, true, true, true, false, false] rfl rfl (any_of HT_.out (by kernel_rfl)) (fun _ _ _ h => h) (Or.inl ⟨by rfl, ?_⟩) ?_ ?_
                    rotate_left
                    ·intro w'
                     go_simp
                     with_reducible rfl
                    rotate_left
                    ·simp only [Act.put, zB, zC, zD, i64_w, i32_w]
                     rfl
                    refine pure_ (i := 11) (N := some 63) (v := ?_) (a' := ?_) #[true, true, true, true, true, true, true, true, true, true, true, true, false] rfl rfl (any_of HT_.out (by kernel_rfl)) (fun _ _ _ h => h) (Or.inl ⟨by rfl, ?_⟩) ?_ ?_
                    rotate_left
                    ·intro w'
                     go_simp
                     with_reducible rfl
                    rotate_left
                    ·simp only [Act.put, zB, zC, zD, i64_w, i32_w]
                     rfl
                    refine last_ (i := 12) (N := none) #[true, true, true, true, true, true, true, true, true, true, true, true, true] rfl rfl (one_of HT_.out (by kernel_rfl)) (by decide) (fun K hK => ?_)
                    refine skip_ (w1 := ?_) (by rfl) rfl ?_ ?_
                    rotate_left
                    ·go_simp
                     rfl
                    refine hK.out _ _ ?_
                    clear hK K
                    refine done_ (done_of HT_.out (by kernel_rfl)) ?_
                    try go_wp2
                    go_roundg k3
                    case measure => have := HK1.out; have := HK2.out; have := HK3.out; omega
                    case rel => exact ⟨(y184), (true), (wrap64 (x34_3 + 1)), (by first | rfl | (simp; done) | (simp [*]; done)), (by first | rfl | (simp; done) | (simp [*]; done)), H', ⟨by have := HK1.out; have := HK2.out; have := HK3.out; omega⟩, ⟨by (with_reducible repeat (first | apply zF | apply zE | apply zG)); exact Kd.R_mono (Kd.R_far (p := ⟨go28, (((rd_T81 t173 x34_3).f1) : Int).toNat, none⟩) (Kd.R_types HO_6.out GG28.out (by decide)) (fun _ hk => hk.2) (.int .i64 (wrap64 ((rd x9_3 ((rd_T81 t173 x34_3).f0)) + ((rd_T81 t173 x34_3).f2))))) (fun _ hk => trivial)⟩, ⟨by (with_reducible repeat (first | apply zF | apply zE | apply zG)); exact Kd.R_mono (Kd.R_far (p := ⟨go28, (((rd_T81 t173 x34_3).f1) : Int).toNat, none⟩) (Kd.R_types HO_8.out GG28.out (by decide)) (fun _ hk => hk.2) (.int .i64 (wrap64 ((rd x9_3 ((rd_T81 t173 x34_3).f0)) + ((rd_T81 t173 x34_3).f2))))) (fun _ hk => trivial)⟩, ⟨bC_ HQ36⟩, ⟨by (with_reducible repeat (first | apply zF | apply zE | apply zG)); exact Kd.R_mono (Kd.R_far (p := ⟨go28, (((rd_T81 t173 x34_3).f1) : Int).toNat, none⟩) (Kd.R_types HO_32.out GG28.out (by decide)) (fun _ hk => hk.2) (.int .i64 (wrap64 ((rd x9_3 ((rd_T81 t173 x34_3).f0)) + ((rd_T81 t173 x34_3).f2))))) (fun _ hk => trivial)⟩, ⟨by (with_reducible repeat (first | refine zM ?_ _ | refine zN ?_ | refine zO ?_ _)); refine blk_far ?_ (by have h_ := Kd.R_ne HO_9.out BK169.out (by decide); intro e_; exact h_ (by rw [e_]; rfl)) _; (with_reducible repeat (first | refine zM ?_ _ | refine zN ?_ | refine zO ?_ _)); exact BK169.out⟩, ⟨by repeat (first | (with_reducible first | exact HB.out | apply below_alloc | apply pw_below_drewN | apply zQ | refine zS ?_ GB28.out | refine zS ?_ GE169.out | refine zS ?_ GE180.out) | exact HB.out)⟩⟩
                   ·rw [if_neg c27] at H
                    have c27b0 : decide ((rd x9_3 ((rd_T81 t173 x34_3).f1)) < (wrap64 ((rd x9_3 ((rd_T81 t173 x34_3).f0)) + ((rd_T81 t173 x34_3).f2)))) = false := decide_eq_false c27
                    clear c27
                    have H' := zA H
                    clear H
                    have p179 : 0 ≤ (x34_3 : Int) := of_decide_eq_true (by first | (with_reducible assumption) | assumption)
                    have q179 : x34_3 < (t173.length : Int) := of_decide_eq_true (by first | (with_reducible assumption) | assumption)
                    obtain ⟨ad179, e179, hx179_0, hx179_1, hx179_2⟩ := at_T81 (zK HO_32.out).2.2 x34_3 p179 q179
                    cases e179
                    replace p179 := eq_true p179
                    replace q179 := eq_true q179
                    try go_wp2_with (first | ((with_reducible refine gate_dst (N := 13) rfl ?_); refine box_event ?hg (N := 13) ?hd (cs := #[.int .i64 0, .int .i64 0, .int .i64 0]) (t := 81) ?hr ?_; (case hd => rfl); (case hg => rfl); (case hr => first | (go_simp; done) | (go_simp; rfl)); intro gb180 hg w37 hbox hb; have n0_ := zA (zL (bC_ HO_6) hb); have n1_ := zA (zL (Kd.R_elderB (bC_ HO_8) gb180 (Nat.le_of_eq hg.symm)) hb); have n2_ := zA (zL (bC_ HO_9) hb); have n3_ := zA (zL (Kd.R_elderB (bC_ HO_32) gb180 (Nat.le_of_eq hg.symm)) hb); have n4_ := zA (zU (g := gb169) (o := .cells #[.int .i64 a0_0, .slice A0_1 l0_1.length c0_1] 25 (0, 0)) (bA_ BK169) hb); have n5_ := zA (below_step (bB_ HB) hb); have n6_ := zA (hbox); have n7_ := zA ((by rw [hg]; exact (zT (bB_ HB)) : w.heap.size ≤ gb180)); have n8_ := zA ((by rw [hg]; exact (zT (bB_ HB)) : w.heap.size ≤ gb180)); have n9_ := zA ((by rw [hg]; exact Nat.ne_of_lt (blk_lt (g := gb169) (o := .cells #[.int .i64 a0_0, .slice A0_1 l0_1.length c0_1] 25 (0, 0)) (bA_ BK169)) : gb169 ≠ gb180)); have n10_ := zA ((by rw [hg]; exact Nat.ne_of_gt (blk_lt (g := gb169) (o := .cells #[.int .i64 a0_0, .slice A0_1 l0_1.length c0_1] 25 (0, 0)) (bA_ BK169)) : gb180 ≠ gb169)); clear HO_6; clear HO_8; clear HO_9; clear HO_32; clear BK169; clear HB; have HO_6 := n0_; have HO_8 := n1_; have HO_9 := n2_; have HO_32 := n3_; have BK169 := n4_; have HB := n5_; have BK180 := n6_; have GW180 := n7_; have GE180 := n8_; have NB169_180 := n9_; have NB180_169 := n10_; clear n0_ n1_ n2_ n3_ n4_ n5_ n6_ n7_ n8_ n9_ n10_; clear hb hbox hg; have hnb38 := NB180_169.out; have hnc38 := NB169_180.out; have hcz39_0 : w37.cell? ⟨gb180, 0, none⟩ = some (.int .i64 0) := (blk_cell BK180.out 0).trans rfl; have hcz39_1 : w37.cell? ⟨gb180, 1, none⟩ = some (.int .i64 0) := (blk_cell BK180.out 1).trans rfl; have hcz39_2 : w37.cell? ⟨gb180, 2, none⟩ = some (.int .i64 0) := (blk_cell BK180.out 2).trans rfl; have hfz39_0 := blk_frozen BK180.out 0; have hfz39_1 := blk_frozen BK180.out 1; have hfz39_2 := blk_frozen BK180.out 2))
                    have n0_ : Aside0 (Kd.R k48 48 (((w37.setCell ⟨gb180, 0, none⟩ (.int .i64 ((rd_T81 t173 x34_3).f0))).setCell ⟨gb180, 1, none⟩ (.int .i64 ((rd_T81 t173 x34_3).f1))).setCell ⟨gb180, 2, none⟩ (.int .i64 ((rd_T81 t173 x34_3).f2))) w.heap.size (fun _ => True) v171 x6_1) := ⟨by (with_reducible repeat (first | apply zF | apply zE | apply zG)); exact Kd.R_mono (Kd.R_far (p := ⟨gb180, 2, none⟩) (Kd.R_far (p := ⟨gb180, 1, none⟩) (Kd.R_far (p := ⟨gb180, 0, none⟩) (Kd.R_types HO_6.out BK180.out (by decide)) (fun _ hk => hk.2) (.int .i64 ((rd_T81 t173 x34_3).f0))) (fun _ hk => hk.2) (.int .i64 ((rd_T81 t173 x34_3).f1))) (fun _ hk => hk.2) (.int .i64 ((rd_T81 t173 x34_3).f2))) (fun _ hk => trivial)⟩
                    have n1_ : Aside0 (Kd.R k81 81 (((w37.setCell ⟨gb180, 0, none⟩ (.int .i64 ((rd_T81 t173 x34_3).f0))).setCell ⟨gb180, 1, none⟩ (.int .i64 ((rd_T81 t173 x34_3).f1))).setCell ⟨gb180, 2, none⟩ (.int .i64 ((rd_T81 t173 x34_3).f2))) w.heap.size (fun k_ => k_ ≠ gb180) (.slice (some ad179) t173.length co19) t173) := ⟨by (with_reducible repeat (first | apply zF | apply zE | apply zG)); exact Kd.R_mono (Kd.R_far (p := ⟨gb180, 2, none⟩) (Kd.R_far (p := ⟨gb180, 1, none⟩) (Kd.R_far (p := ⟨gb180, 0, none⟩) (Kd.R_mono HO_8.out (fun k_ hk => (⟨hk, hk.2⟩ : _ ∧ k_ ≠ gb180))) (fun _ hk => hk.2) (.int .i64 ((rd_T81 t173 x34_3).f0))) (fun _ hk => hk.2) (.int .i64 ((rd_T81 t173 x34_3).f1))) (fun _ hk => hk.2) (.int .i64 ((rd_T81 t173 x34_3).f2))) (fun _ hk => hk.1.2)⟩
                    have n2_ : Aside0 (Kd.R (Kd.int .i64) 3 (((w37.setCell ⟨gb180, 0, none⟩ (.int .i64 ((rd_T81 t173 x34_3).f0))).setCell ⟨gb180, 1, none⟩ (.int .i64 ((rd_T81 t173 x34_3).f1))).setCell ⟨gb180, 2, none⟩ (.int .i64 ((rd_T81 t173 x34_3).f2))) w.heap.size (fun _ => True) v177 x9_3) := ⟨by (with_reducible repeat (first | apply zF | apply zE | apply zG)); exact Kd.R_mono (Kd.R_far (p := ⟨gb180, 2, none⟩) (Kd.R_far (p := ⟨gb180, 1, none⟩) (Kd.R_far (p := ⟨gb180, 0, none⟩) (Kd.R_types HO_9.out BK180.out (by decide)) (fun _ hk => hk.2) (.int .i64 ((rd_T81 t173 x34_3).f0))) (fun _ hk => hk.2) (.int .i64 ((rd_T81 t173 x34_3).f1))) (fun _ hk => hk.2) (.int .i64 ((rd_T81 t173 x34_3).f2))) (fun _ hk => trivial)⟩
                    have n3_ : Aside0 (Kd.R k81 81 (((w37.setCell ⟨gb180, 0, none⟩ (.int .i64 ((rd_T81 t173 x34_3).f0))).setCell ⟨gb180, 1, none⟩ (.int .i64 ((rd_T81 t173 x34_3).f1))).setCell ⟨gb180, 2, none⟩ (.int .i64 ((rd_T81 t173 x34_3).f2))) w.heap.size (fun k_ => k_ ≠ gb180) (.slice (some ad179) t173.length co19) t173) := ⟨by (with_reducible repeat (first | apply zF | apply zE | apply zG)); exact Kd.R_mono (Kd.R_far (p := ⟨gb180, 2, none⟩) (Kd.R_far (p := ⟨gb180, 1, none⟩) (Kd.R_far (p := ⟨gb180, 0, none⟩) (Kd.R_mono HO_32.out (fun k_ hk => (⟨hk, hk.2⟩ : _ ∧ k_ ≠ gb180))) (fun _ hk => hk.2) (.int .i64 ((rd_T81 t173 x34_3).f0))) (fun _ hk => hk.2) (.int .i64 ((rd_T81 t173 x34_3).f1))) (fun _ hk => hk.2) (.int .i64 ((rd_T81 t173 x34_3).f2))) (fun _ hk => hk.1.2)⟩
                    have n4_ : Aside0 ((((w37.setCell ⟨gb180, 0, none⟩ (.int .i64 ((rd_T81 t173 x34_3).f0))).setCell ⟨gb180, 1, none⟩ (.int .i64 ((rd_T81 t173 x34_3).f1))).setCell ⟨gb180, 2, none⟩ (.int .i64 ((rd_T81 t173 x34_3).f2))).heap[gb169]? = some (.cells #[.int .i64 a0_0, .slice A0_1 l0_1.length c0_1] 25 (0, 0))) := ⟨bD_ BK169⟩
                    have n5_ : Aside0 ((((w37.setCell ⟨gb180, 0, none⟩ (.int .i64 ((rd_T81 t173 x34_3).f0))).setCell ⟨gb180, 1, none⟩ (.int .i64 ((rd_T81 t173 x34_3).f1))).setCell ⟨gb180, 2, none⟩ (.int .i64 ((rd_T81 t173 x34_3).f2))).heap[gb180]? = some (.cells #[.int .i64 ((rd_T81 t173 x34_3).f0), .int .i64 ((rd_T81 t173 x34_3).f1), .int .i64 ((rd_T81 t173 x34_3).f2)] 81 (0, 0))) := ⟨by (with_reducible repeat (first | refine zM ?_ _ | refine zN ?_ | refine zO ?_ _)); refine blk_put (cs := #[.int .i64 ((rd_T81 t173 x34_3).f0), .int .i64 ((rd_T81 t173 x34_3).f1), .int .i64 0]) ?_ 2 _ rfl; (with_reducible repeat (first | refine zM ?_ _ | refine zN ?_ | refine zO ?_ _)); refine blk_put (cs := #[.int .i64 ((rd_T81 t173 x34_3).f0), .int .i64 0, .int .i64 0]) ?_ 1 _ rfl; (with_reducible repeat (first | refine zM ?_ _ | refine zN ?_ | refine zO ?_ _)); refine blk_put (cs := #[.int .i64 0, .int .i64 0, .int .i64 0]) ?_ 0 _ rfl; (with_reducible repeat (first | refine zM ?_ _ | refine zN ?_ | refine zO ?_ _)); exact BK180.out⟩
                    have n6_ : Aside0 (Below w.heap.size w (((w37.setCell ⟨gb180, 0, none⟩ (.int .i64 ((rd_T81 t173 x34_3).f0))).setCell ⟨gb180, 1, none⟩ (.int .i64 ((rd_T81 t173 x34_3).f1))).setCell ⟨gb180, 2, none⟩ (.int .i64 ((rd_T81 t173 x34_3).f2)))) := ⟨bB_ HB⟩
                    (try clear HO_6)
                    (try clear HO_8)
                    (try clear HO_9)
                    (try clear HO_32)
                    (try clear BK169)
                    (try clear BK180)
                    (try clear HB)
                    generalize (((w37.setCell ⟨gb180, 0, none⟩ (.int .i64 ((rd_T81 t173 x34_3).f0))).setCell ⟨gb180, 1, none⟩ (.int .i64 ((rd_T81 t173 x34_3).f1))).setCell ⟨gb180, 2, none⟩ (.int .i64 ((rd_T81 t173 x34_3).f2))) = w40 at n0_ n1_ n2_ n3_ n4_ n5_ n6_ ⊢
                    have HO_6 := n0_
                    have HO_8 := n1_
                    have HO_9 := n2_
                    have HO_32 := n3_
                    have BK169 := n4_
                    have BK180 := n5_
                    have HB := n6_
                    clear n0_ n1_ n2_ n3_ n4_ n5_ n6_
                    have n0_ := zA (zG HO_6.out)
                    have n1_ := zA (zG HO_8.out)
                    have n2_ := zA (zG HO_9.out)
                    have n3_ := zA (zG HO_32.out)
                    have n4_ := zA (zN BK169.out)
                    have n5_ := zA (zN BK180.out)
                    have n6_ := zA (zQ HB.out)
                    clear HO_6
                    clear HO_8
                    clear HO_9
                    clear HO_32
                    clear BK169
                    clear BK180
                    clear HB
                    have HO_6 := n0_
                    have HO_8 := n1_
                    have HO_9 := n2_
                    have HO_32 := n3_
                    have BK169 := n4_
                    have BK180 := n5_
                    have HB := n6_
                    clear n0_ n1_ n2_ n3_ n4_ n5_ n6_
                    obtain ⟨Ao42, co42, eo42⟩ := Kd.R_slice HO_9.out
                    (first | subst eo42 | (injection eo42 with f1_ f2_ f3_; have f4_ := f1_.symm; have f5_ := f3_.symm; clear f1_ f2_ f3_; subst f4_; subst f5_))
                    have p181 : 0 ≤ (((rd_T81 t173 x34_3).f0) : Int) := of_decide_eq_true (by first | (with_reducible assumption) | assumption)
                    have q181 : ((rd_T81 t173 x34_3).f0) < (x9_3.length : Int) := of_decide_eq_true (by first | (with_reducible assumption) | assumption)
                    obtain ⟨ad181, e181, hx181_0⟩ := Kd.at_int (zK HO_9.out).2.2 ((rd_T81 t173 x34_3).f0) p181 q181
                    cases e181
                    replace p181 := eq_true p181
                    replace q181 := eq_true q181
                    have p182 : 0 ≤ (((rd_T81 t173 x34_3).f1) : Int) := of_decide_eq_true (by first | (with_reducible assumption) | assumption)
                    have q182 : ((rd_T81 t173 x34_3).f1) < (x9_3.length : Int) := of_decide_eq_true (by first | (with_reducible assumption) | assumption)
                    obtain ⟨ad182, e182, hx182_0⟩ := Kd.at_int (zK HO_9.out).2.2 ((rd_T81 t173 x34_3).f1) p182 q182
                    obtain rfl : ad181 = ad182 := (by injection e182)
                    replace p182 := eq_true p182
                    replace q182 := eq_true q182
                    refine start_ (n := 14) (S := fun w' => w'.cell? ⟨gb180, 0, none⟩ = some (.int .i64 ((rd_T81 t173 x34_3).f0)) ∧ w'.cell? ⟨gb180, 1, none⟩ = some (.int .i64 ((rd_T81 t173 x34_3).f1)) ∧ w'.cell? ⟨gb180, 2, none⟩ = some (.int .i64 ((rd_T81 t173 x34_3).f2)) ∧ w'.cell? (ad181.add (((rd_T81 t173 x34_3).f0)).toNat) = some (.int .i64 (rd x9_3 ((rd_T81 t173 x34_3).f0))) ∧ w'.cell? (ad181.add (((rd_T81 t173 x34_3).f1)).toNat) = some (.int .i64 (rd x9_3 ((rd_T81 t173 x34_3).f1)))) (ds := []) #[false, false, false, false, false, false, false, false, false, false, false, false, false, false] (by kernel_rfl) rfl rfl ⟨(blk_cell BK180.out 0).trans rfl, (blk_cell BK180.out 1).trans rfl, (blk_cell BK180.out 2).trans rfl, hx181_0, hx182_0⟩ (fun hHeld => ?_); refine with_tabW impl_leastOf.tab13 impl_leastOf.bits13 (fun HT_ HW_ => ?_)
                    generalize w40.drew = w41 at HO_6 HO_8 HO_9 HO_32 BK169 BK180 HB hx181_0 hx182_0 hHeld ⊢
                    refine pure_ (i := 0) (N := some 38) (v := ?_) (a' := ?_) #[true, false, false, false, false, false, false, false, false, false, false, false, false, false] rfl rfl (any_of HT_.out (by kernel_rfl)) (fun _ _ _ h => h) (Or.inl ⟨by rfl, ?_⟩) ?_ ?_
                    rotate_left
                    ·intro w'
                     go_simp
                     with_reducible rfl
                    rotate_left
                    ·simp only [Act.put, zB, zC, zD, i64_w, i32_w]
                     rfl
                    refine pure_ (i := 1) (N := some 39) (v := ?_) (a' := ?_) #[true, true, false, false, false, false, false, false, false, false, false, false, false, false] rfl rfl (any_of HT_.out (by kernel_rfl)) (fun _ _ _ h => h) (Or.inl ⟨by rfl, ?_⟩) ?_ ?_
                    rotate_left
                    ·intro w'
                     go_simp
                     with_reducible rfl
                    rotate_left
                    ·simp only [Act.put, zB, zC, zD, i64_w, i32_w]
                     rfl
                    refine pure_ (i := 5) (N := some 43) (v := ?_) (a' := ?_) #[true, true, false, false, false, true, false, false, false, false, false, false, false, false] rfl rfl (any_of HT_.out (by kernel_rfl)) (fun _ _ _ h => h) (Or.inl ⟨by rfl, ?_⟩) ?_ ?_
                    rotate_left
                    ·intro w'
                     go_simp
                     with_reducible rfl
                    rotate_left
                    ·simp only [Act.put, zB, zC, zD, i64_w, i32_w]
                     rfl
                    refine pure_ (i := 8) (N := some 46) (v := ?_) (a' := ?_) #[true, true, false, false, false, true, false, false, true, false, false, false, false, false] rfl rfl (any_of HT_.out (by kernel_rfl)) (fun _ _ _ h => h) (Or.inl ⟨by rfl, ?_⟩) ?_ ?_
                    rotate_left
                    ·intro w'
                     go_simp
                     with_reducible rfl
                    rotate_left
                    ·simp only [Act.put, zB, zC, zD, i64_w, i32_w]
                     rfl
                    refine pure_ (i := 9) (N := some 47) (v := ?_) (a' := ?_) #[true, true, false, false, false, true, false, false, true, true, false, false, false, false] rfl rfl (any_of HT_.out (by kernel_rfl)) (fun _ _ _ h => h) (Or.inl ⟨by rfl, ?_⟩) ?_ ?_
                    rotate_left
                    ·intro w'
                     go_simp
                     with_reducible rfl
                    rotate_left
                    ·simp only [Act.put, zB, zC, zD, i64_w, i32_w]
                     rfl
                    refine take_ (i := 2) (N := some 40) (v := ?_) (a' := ?_) #[true, true, true, false, false, true, false, false, true, true, false, false, false, false] rfl rfl (take_ofW HT_.out HW_.out (by kernel_rfl)) (fun _ _ _ h => h) (Or.inl ⟨by rfl, ?_⟩) hHeld ?_ ?_
                    rotate_left
                    ·rintro w' ⟨s0, s1, s2, s3, s4⟩
                     go_simp
                     with_reducible rfl
                    rotate_left
                    ·simp only [Act.put, zB, zC, zD, i64_w, i32_w]
                     rfl
                    refine pure_ (i := 3) (N := some 41) (v := ?_) (a' := ?_) #[true, true, true, true, false, true, false, false, true, true, false, false, false, false] rfl rfl (any_of HT_.out (by kernel_rfl)) (fun _ _ _ h => h) (Or.inl ⟨by rfl, ?_⟩) ?_ ?_
                    rotate_left
                    ·intro w'
                     go_simp
                     with_reducible rfl
                    rotate_left
                    ·simp only [Act.put, zB, zC, zD, i64_w, i32_w]
                     rfl
                    refine take_ (i := 4) (N := some 42) (v := ?_) (a' := ?_) #[true, true, true, true, true, true, false, false, true, true, false, false, false, false] rfl rfl (take_ofW HT_.out HW_.out (by kernel_rfl)) (fun _ _ _ h => h) (Or.inl ⟨by rfl, ?_⟩) hHeld ?_ ?_
                    rotate_left
                    ·rintro w' ⟨s0, s1, s2, s3, s4⟩
                     go_simp
                     with_reducible rfl
                    rotate_left
                    ·simp only [Act.put, zB, zC, zD, i64_w, i32_w]
                     rfl
                    refine take_ (i := 6) (N := some 44) (v := ?_) (a' := ?_) #[true, true, true, true, true, true, true, false, true, true, false, false, false, false] rfl rfl (take_ofW HT_.out HW_.out (by kernel_rfl)) (fun _ _ _ h => h) (Or.inl ⟨by rfl, ?_⟩) hHeld ?_ ?_
                    rotate_left
                    ·rintro w' ⟨s0, s1, s2, s3, s4⟩
                     go_simp
                     with_reducible rfl
                    rotate_left
                    ·simp only [Act.put, zB, zC, zD, i64_w, i32_w]
                     rfl
                    refine pure_ (i := 7) (N := some 45) (v := ?_) (a' := ?_) #[true, true, true, true, true, true, true, true, true, true, false, false, false, false] rfl rfl (any_of HT_.out (by kernel_rfl)) (fun _ _ _ h => h) (Or.inl ⟨by rfl, ?_⟩) ?_ ?_
                    rotate_left
                    ·intro w'
                     go_simp
                     with_reducible rfl
                    rotate_left
                    ·simp only [Act.put, zB, zC, zD, i64_w, i32_w]
                     rfl
                    refine take_ (i := 10) (N := some 48) (v := ?_) (a' := ?_) #[true, true, true, true, true, true, true, true, true, true, true, false, false, false] rfl rfl (take_ofW HT_.out HW_.out (by kernel_rfl)) (fun _ _ _ h => h) (Or.inl ⟨by rfl, ?_⟩) hHeld ?_ ?_
                    rotate_left
                    ·rintro w' ⟨s0, s1, s2, s3, s4⟩
                     go_simp
                     with_reducible rfl
                    rotate_left
                    ·simp only [Act.put, zB, zC, zD, i64_w, i32_w]
                     rfl
                    refine pure_ (i := 11) (N := some 49) (v := ?_) (a' := ?_) #[true, true, true, true, true, true, true, true, true, true, true, true, false, false] rfl rfl (any_of HT_.out (by kernel_rfl)) (fun _ _ _ h => h) (Or.inl ⟨by rfl, ?_⟩) ?_ ?_
                    rotate_left
                    ·intro w'
                     go_simp
                     with_reducible rfl
                    rotate_left
                    ·simp only [Act.put, zB, zC, zD, i64_w, i32_w]
                     rfl
                    refine take_ (i := 12) (N := some 50) (v := ?_) (a' := ?_) #[true, true, true, true, true, true, true, true, true, true, true, true, true, false] rfl rfl (take_ofW HT_.out HW_.out (by kernel_rfl)) (fun _ _ _ h => h) (Or.inl ⟨by rfl, ?_⟩) hHeld ?_ ?_
                    rotate_left
                    ·rintro w' ⟨s0, s1, s2, s3, s4⟩
                     go_simp
                     with_reducible rfl
                    rotate_left
                    ·simp only [Act.put, zB, zC, zD, i64_w, i32_w]
                     rfl
                    refine pure_ (i := 13) (N := some 51) (v := ?_) (a' := ?_) #[true, true, true, true, true, true, true, true, true, true, true, true, true, true] rfl rfl (any_of HT_.out (by kernel_rfl)) (fun _ _ _ h => h) (Or.inl ⟨by rfl, ?_⟩) ?_ ?_
                    rotate_left
                    ·intro w'
                     go_simp
                     with_reducible rfl
                    rotate_left
                    ·simp only [Act.put, zB, zC, zD, i64_w, i32_w]
                     rfl
                    refine done_ (done_of HT_.out (by kernel_rfl)) ?_
                    try go_wp2
                    go_roundg k3
                    case measure => have := HK1.out; have := HK2.out; have := HK3.out; omega
                    case rel => exact ⟨(x9_3), (x11_3), (wrap64 (x34_3 + 1)), (by first | rfl | (simp; done) | (simp [*]; done)), (by first | rfl | (simp; done) | (simp [*]; done)), H', ⟨by have := HK1.out; have := HK2.out; have := HK3.out; omega⟩, ⟨bC_ HO_6⟩, ⟨by (with_reducible repeat (first | apply zF | apply zE | apply zG)); exact Kd.R_mono HO_8.out (fun _ hk => trivial)⟩, ⟨bC_ HO_9⟩, ⟨by (with_reducible repeat (first | apply zF | apply zE | apply zG)); exact Kd.R_mono HO_32.out (fun _ hk => trivial)⟩, ⟨bA_ BK169⟩, ⟨bB_ HB⟩⟩
                  ·rw [if_neg c26] at H
                   exact absurd H (by simp)
                 ·rw [if_neg c25] at H
                  exact absurd H (by simp)
                ·rw [if_neg c24] at H
                 exact absurd H (by simp)
               ·rw [if_neg c23] at H
                exact absurd H (by simp)
              ·rw [if_neg c22] at H
               exact absurd H (by simp)
             ·rw [if_neg c21] at H
              exact absurd H (by simp)
            ·rw [if_neg c20] at H
             have c20b0 : decide (x34_3 < (t173.length : Int)) = false := decide_eq_false c20
             clear c20
             by_cases c43 : x11_3 = true
             ·subst c43
              have H1 : (if x10_2 > (wrap64 (a0_0 + 1)) then (some (([] : List (S48)), false)) else (if 0 ≤ a0_0 then (if a0_0 < (x9_3.length : Int) then (if (rd x9_3 a0_0) > 0 then (some (([] : List (S48)), false)) else (impl_leastOf.l1 k3 l1 x6_1 x7_1 t173 x9_3 (wrap64 (x10_2 + 1)) a0_0 l0_1)) else (none)) else (none))) = some (r1, r2) := by rw [if_pos rfl] at H; exact H
              clear H
              have H := H1
              clear H1
              by_cases c44 : x10_2 > (wrap64 (a0_0 + 1))
              ·rw [if_pos c44] at H
               have c44b0 : decide ((wrap64 (a0_0 + 1)) < x10_2) = true := decide_eq_true c44
               (try rw [hji11] at c44b0)
               clear c44
               simp only [Option.some.injEq, Prod.mk.injEq] at H
               obtain ⟨rfl, rfl⟩ := H
               have hcz45_0 : wr.cell? ⟨gb169, 0, none⟩ = some (.int .i64 a0_0) := (blk_cell BK169.out 0).trans rfl
               have hcz45_1 : wr.cell? ⟨gb169, 1, none⟩ = some (.slice A0_1 l0_1.length c0_1) := (blk_cell BK169.out 1).trans rfl
               have hfz45_0 := blk_frozen BK169.out 0
               have hfz45_1 := blk_frozen BK169.out 1
               go_wp2
               go_ret2
               exact ⟨_, by first | rfl | (simp [errW_none, errW_some] <;> rfl) | (simp only [← hji11]; first | rfl | (simp [errW_none, errW_some] <;> rfl)) | (simp [*, errW_none, errW_some] <;> rfl), by first | exact Kd.R_nil _ _ _ _ _ | exact Kd.N_nil _ _ _ _ _ | exact Kd.V_nil _ _ _ _ _ | exact Kd.Q_nil _ _ _ _ _ | exact Kd.S_nil _ _ _ _ _, bB_ HB⟩
              ·rw [if_neg c44] at H
               have c44b0 : decide ((wrap64 (a0_0 + 1)) < x10_2) = false := decide_eq_false c44
               (try rw [hji11] at c44b0)
               clear c44
               by_cases c46 : 0 ≤ a0_0
               ·rw [if_pos c46] at H
                have c46b0 : decide (0 ≤ a0_0) = true := decide_eq_true c46
                clear c46
                by_cases c47 : a0_0 < (x9_3.length : Int)
                ·rw [if_pos c47] at H
                 have c47b0 : decide (a0_0 < (x9_3.length : Int)) = true := decide_eq_true c47
                 clear c47
                 by_cases c48 : (rd x9_3 a0_0) > 0
                 ·rw [if_pos c48] at H
                  have c48b0 : decide (0 < (rd x9_3 a0_0)) = true := decide_eq_true c48
                  clear c48
                  simp only [Option.some.injEq, Prod.mk.injEq] at H
                  obtain ⟨rfl, rfl⟩ := H
                  have hcz49_0 : wr.cell? ⟨gb169, 0, none⟩ = some (.int .i64 a0_0) := (blk_cell BK169.out 0).trans rfl
                  have hcz49_1 : wr.cell? ⟨gb169, 1, none⟩ = some (.slice A0_1 l0_1.length c0_1) := (blk_cell BK169.out 1).trans rfl
                  have hfz49_0 := blk_frozen BK169.out 0
                  have hfz49_1 := blk_frozen BK169.out 1
                  obtain ⟨Ao50, co50, eo50⟩ := Kd.R_slice HO_9.out
                  subst eo50
                  have p185 : 0 ≤ (a0_0 : Int) := of_decide_eq_true (by first | (with_reducible assumption) | assumption)
                  have q185 : a0_0 < (x9_3.length : Int) := of_decide_eq_true (by first | (with_reducible assumption) | assumption)
                  obtain ⟨ad185, e185, hx185_0⟩ := Kd.at_int (zK HO_9.out).2.2 a0_0 p185 q185
                  cases e185
                  replace p185 := eq_true p185
                  replace q185 := eq_true q185
                  go_wp2
                  go_ret2
                  exact ⟨_, by first | rfl | (simp [errW_none, errW_some] <;> rfl) | (simp only [← hji11]; first | rfl | (simp [errW_none, errW_some] <;> rfl)) | (simp [*, errW_none, errW_some] <;> rfl), by first | exact Kd.R_nil _ _ _ _ _ | exact Kd.N_nil _ _ _ _ _ | exact Kd.V_nil _ _ _ _ _ | exact Kd.Q_nil _ _ _ _ _ | exact Kd.S_nil _ _ _ _ _, bB_ HB⟩
                 ·rw [if_neg c48] at H
                  have c48b0 : decide (0 < (rd x9_3 a0_0)) = false := decide_eq_false c48
                  clear c48
                  have H' := zA H
                  clear H
                  have hcz51_0 : wr.cell? ⟨gb169, 0, none⟩ = some (.int .i64 a0_0) := (blk_cell BK169.out 0).trans rfl
                  have hcz51_1 : wr.cell? ⟨gb169, 1, none⟩ = some (.slice A0_1 l0_1.length c0_1) := (blk_cell BK169.out 1).trans rfl
                  have hfz51_0 := blk_frozen BK169.out 0
                  have hfz51_1 := blk_frozen BK169.out 1
                  obtain ⟨Ao52, co52, eo52⟩ := Kd.R_slice HO_9.out
                  subst eo52
                  have p185 : 0 ≤ (a0_0 : Int) := of_decide_eq_true (by first | (with_reducible assumption) | assumption)
                  have q185 : a0_0 < (x9_3.length : Int) := of_decide_eq_true (by first | (with_reducible assumption) | assumption)
                  obtain ⟨ad185, e185, hx185_0⟩ := Kd.at_int (zK HO_9.out).2.2 a0_0 p185 q185
                  cases e185
                  replace p185 := eq_true p185
                  replace q185 := eq_true q185
                  go_wp2
                  go_roundg k3
                  case measure => have := HK1.out; have := HK2.out; have := HK3.out; omega
                  case rel => exact ⟨(x9_3), (wrap64 (x10_2 + 1)), (by first | rfl | (simp; done) | (simp [*]; done)), H', ⟨by have := HK1.out; have := HK2.out; have := HK3.out; omega⟩, ⟨bC_ HO_6⟩, ⟨bC_ HO_8⟩, ⟨bC_ HO_9⟩, ⟨bA_ BK169⟩, ⟨bB_ HB⟩⟩
                ·rw [if_neg c47] at H
                 exact absurd H (by simp)
               ·rw [if_neg c46] at H
                exact absurd H (by simp)
             ·replace c43 := Bool.eq_false_iff.mpr c43
              subst c43
              have H1 : (impl_leastOf.l3 k3 l1 x6_1 x7_1 x9_3 (x6_1.length : Int) 0 a0_0 l0_1) = some (r1, r2) := by rw [if_neg (show ¬ (false = true) by decide)] at H; exact H
              clear H
              have H := H1
              clear H1
              have H' := zA H
              clear H
              obtain ⟨Ao53, co53, eo53⟩ := Kd.R_slice HO_6.out
              subst eo53
              go_wp2
              go_loopg [82] k3 (fun kq v82 w' => ∃ (x6_4 : List (S48)) (x82_4 : Int), v82 = .int .i64 x82_4 ∧ Aside0 (impl_leastOf.l3 kq l1 x6_4 x7_1 x9_3 (x6_1.length : Int) x82_4 a0_0 l0_1 = some (r1, r2)) ∧ Aside0 (kq ≤ k3) ∧ Aside0 (Kd.R k48 48 w' w.heap.size (fun _ => True) (.slice Ao53 x6_1.length co53) x6_4) ∧ Aside0 (Kd.R (Kd.int .i64) 3 w' w.heap.size (fun _ => True) v177 x9_3) ∧ Aside0 (w'.heap[gb169]? = some (.cells #[.int .i64 a0_0, (.slice A0_1 l0_1.length c0_1)] 25 (0, 0))) ∧ Aside0 (Below w.heap.size w w'))
              case atStart => exact ⟨(x6_1), (0), (by first | rfl | (simp; done) | (simp [*]; done)), H', ⟨Nat.le_refl _⟩, ⟨bC_ HO_6⟩, ⟨bC_ HO_9⟩, ⟨bA_ BK169⟩, ⟨bB_ HB⟩⟩
              case round =>
               clear H'
               try clear p1
               try clear q1
               try clear hx1
               try clear c2
               try clear p2
               try clear q2
               try clear hx2
               try clear hf2
               try clear c3
               try clear c4
               try clear p6
               try clear p17
               try clear q17
               try clear hx17
               try clear p18
               try clear q18
               try clear hx18
               try clear c20
               try clear c20b0
               try clear c21
               try clear c22
               try clear c23
               try clear c24
               try clear c25
               try clear c26
               try clear c27
               try clear c27b0
               try clear p28
               try clear q28
               try clear hx28
               try clear hf28
               try clear c38
               try clear c43
               try clear c44
               try clear c44b0
               try clear c46
               try clear c46b0
               try clear c47
               try clear c47b0
               try clear c48
               try clear c48b0
               try clear hcz39_0
               try clear hcz39_1
               try clear hcz39_2
               try clear hcz45_0
               try clear hcz45_1
               try clear hcz49_0
               try clear hcz49_1
               try clear hcz51_0
               try clear hcz51_1
               try clear hfz39_0
               try clear hfz39_1
               try clear hfz39_2
               try clear hfz45_0
               try clear hfz45_1
               try clear hfz49_0
               try clear hfz49_1
               try clear hfz51_0
               try clear hfz51_1
               try clear hx179_0
               try clear hx179_1
               try clear hx179_2
               try clear hx181_0
               try clear hx182_0
               try clear hx183_0
               try clear hx185_0
               try clear hx28_0
               try clear p179
               try clear p181
               try clear p182
               try clear p183
               try clear p185
               try clear p28
               try clear q179
               try clear q181
               try clear q182
               try clear q183
               try clear q185
               try clear q28
               obtain ⟨x6_4, x82_4, rfl, HA, HK4, HO_6, HO_9, BK169, HB⟩ := hrel
               have hl6_4 := (zK HO_6.out).1
               rw [hl6_4] at HO_6
               (try simp only [hl6_4])
               (try simp only [hl6_4] at BK169)
               (try simp only [hl6_4] at HO_9)
               cases gk with
               | zero => exact absurd HA.out (by simp [impl_leastOf.l3])
               | succ k4 =>
                have H := HA.out
                clear HA
                simp only [impl_leastOf.l3] at H
                by_cases c54 : x82_4 < (x6_1.length : Int)
                ·rw [if_pos c54] at H
                 have c54b0 : decide (x82_4 < (x6_1.length : Int)) = true := decide_eq_true c54
                 (try (have c54b0l := c54b0; rw [hl6_4] at c54b0l))
                 clear c54
                 by_cases c55 : x7_1 = 0
                 ·rw [if_pos c55] at H
                  have c55b0 : (x7_1 == 0) = true := beq_iff_eq.mpr c55
                  have c55b1 : (x7_1 != 0) = false := bne_eq_false_iff_eq.mpr c55
                  clear c55
                  by_cases c56 : 0 ≤ x82_4
                  ·rw [if_pos c56] at H
                   have c56b0 : decide (0 ≤ x82_4) = true := decide_eq_true c56
                   clear c56
                   by_cases c57 : x82_4 < (x9_3.length : Int)
                   ·rw [if_pos c57] at H
                    have c57b0 : decide (x82_4 < (x9_3.length : Int)) = true := decide_eq_true c57
                    (try (have c57b0l := c57b0; rw [hl6_4] at c57b0l))
                    clear c57
                    by_cases c58 : x82_4 < (x6_4.length : Int)
                    ·rw [if_pos c58] at H
                     have c58b0 : decide (x82_4 < (x6_4.length : Int)) = true := decide_eq_true c58
                     (try (have c58b0l := c58b0; rw [hl6_4] at c58b0l))
                     clear c58
                     obtain ⟨y187, hy187⟩ : ∃ y_ : List (S48), y_ = (x6_4.set (x82_4 : Int).toNat (⟨rd x9_3 x82_4, (rd_T48 x6_4 x82_4).f1⟩ : S48)) := ⟨_, rfl⟩
                     replace H : (impl_leastOf.l3 k4 l1 y187 x7_1 x9_3 (x6_1.length : Int) (wrap64 (x82_4 + 1)) a0_0 l0_1) = some (r1, r2) := by first | (rw [hy187]; with_reducible exact H) | (have H2_ := (Option.bind_some _ _).symm.trans H; rw [hy187]; with_reducible exact H2_) | (have H2_ := (Option.bind_some _ _).symm.trans H; with_reducible exact H2_) | with_reducible exact H | (rw [hy187]; exact H) | exact H
                     have Ny187 := zA hy187
                     clear hy187
                     have H' := zA H
                     clear H
                     obtain ⟨Ao60, co60, eo60⟩ := Kd.R_slice HO_9.out
                     subst eo60
                     have p186 : 0 ≤ (x82_4 : Int) := of_decide_eq_true (by first | (with_reducible assumption) | assumption)
                     have q186 : x82_4 < (x9_3.length : Int) := of_decide_eq_true (by first | (with_reducible assumption) | assumption)
                     obtain ⟨ad186, e186, hx186_0⟩ := Kd.at_int (zK HO_9.out).2.2 x82_4 p186 q186
                     cases e186
                     replace p186 := eq_true p186
                     replace q186 := eq_true q186
                     have p59 : 0 ≤ (x82_4 : Int) := of_decide_eq_true (by first | (with_reducible assumption) | assumption)
                     have q59 : (x82_4 : Int) < ((x6_4.length : Int) : Int) := of_decide_eq_true (by first | (with_reducible assumption) | assumption)
                     obtain ⟨go59, co59, eo59, gb59, gl59, cl59, HG59⟩ := Kd.R_form HO_6.out (by omega)
                     (first | cases eo59 | (injection eo59 with ea_ en_ ec_; (first | subst ea_ | (injection ea_ with ea_; subst ea_)); subst ec_; clear en_))
                     have GB59 := zA gb59
                     have GG59 := zA HG59
                     clear gb59 gl59 HG59
                     obtain ⟨ce59, hcl59, hM59, hcc59, hfr59⟩ := Kd.R_elem HO_6.out z48 (x82_4 : Int) p59 q59
                     obtain rfl := k48_openM hM59
                     have hx59_0 : wr.cell? ⟨go59, (x82_4 : Int).toNat * 2, none⟩ = some (.int .i64 ((rd_T48 x6_4 x82_4).f0)) := hcc59 0 _ rfl
                     have hx59_1 : wr.cell? ⟨go59, (x82_4 : Int).toNat * 2 + 1, none⟩ = some (.int .i64 ((rd_T48 x6_4 x82_4).f1)) := hcc59 1 _ rfl
                     have hf59_0 : wr.frozen? ⟨go59, (x82_4 : Int).toNat * 2, none⟩ = false := hfr59 0
                     have hf59_1 : wr.frozen? ⟨go59, (x82_4 : Int).toNat * 2 + 1, none⟩ = false := hfr59 1
                     clear hcl59 hcc59 hfr59 hM59
                     replace p59 := eq_true p59
                     replace q59 := eq_true q59
                     have HX61 := zA (show Kd.R k48 48 wr w.heap.size (fun _ => True) (.slice (some ⟨go59, 0, none⟩) x6_4.length co53) x6_4 from (bC_ HO_6))
                     obtain ⟨ce61, hcl61, hM61, hcc61, hfr61⟩ := Kd.R_elem HX61.out z48 (x82_4 : Int) (of_decide_eq_true (by first | (with_reducible assumption) | assumption)) (by have h_ : (x82_4 : Int) < ((x6_4.length : Int) : Int) := of_decide_eq_true (by first | (with_reducible assumption) | assumption); first | exact h_ | (have e_ := (zK HO_6.out).1; omega) | simpa using h_)
                     obtain rfl := k48_openM hM61
                     have HP61 := Kd.R_seg HX61.out (x82_4 : Int) (of_decide_eq_true (by first | (with_reducible assumption) | assumption)) (by have h_ : (x82_4 : Int) < ((x6_4.length : Int) : Int) := of_decide_eq_true (by first | (with_reducible assumption) | assumption); first | exact h_ | (have e_ := (zK HO_6.out).1; omega) | simpa using h_) (seg := [.int .i64 (rd x9_3 x82_4)]) (j := 0) hcl61 hcc61 (show 1 ≤ 2 from by decide) (x' := (⟨rd x9_3 x82_4, (rd_T48 x6_4 x82_4).f1⟩ : S48)) (k48_mkM _ _ _ (⟨rd x9_3 x82_4, (rd_T48 x6_4 x82_4).f1⟩ : S48) ) (fun _ hk => hk)
                     have hx61_0 := hcc61 0 _ rfl
                     (try simp only [show (k48).sz = 2 from rfl, Nat.mul_one, Nat.add_zero] at hx61_0)
                     have hf61_0 := hfr61 0
                     (try simp only [show (k48).sz = 2 from rfl, Nat.mul_one, Nat.add_zero] at hf61_0)
                     clear hcl61 hcc61 hfr61 hM61
                     go_wp2_with (first | ((with_reducible refine gate_store (t := 3) (p := 94) rfl ?_); refine store_event (t := 3) (p := 94) (v := ?vo_w62) (w1 := (wr.setCell ⟨go59, (x82_4 : Int).toNat * 2, none⟩ (.int .i64 (rd x9_3 x82_4)))) ?hg ?ho ?hn ?hr ?_; (case ho => rfl); (case hg => rfl); (case hn => rfl); (case hr => first | (go_simp; done) | (go_simp; rfl)); intro w62 hw; have hg : wr.grownBy w62 (some go59) := (by rw [hw]; exact HP61.2); have hp_ : Kd.R k48 48 w62 w.heap.size (fun _ => True) (.slice (some ⟨go59, 0, none⟩) x6_4.length co53) y187 := (by rw [hw, Ny187.out]; exact HP61.1); clear HP61; have n0_ := zA (hp_); have n1_ := zA (Kd.R_over' (v := (.slice (some ⟨go59, 0, none⟩) x6_4.length co53)) (bC_ HO_9) (Kd.R_typed HO_6.out) (by decide) hg); have n2_ := zA (blk_grown (g := gb169) (o := .cells #[.int .i64 a0_0, .slice A0_1 l0_1.length c0_1] 25 (0, 0)) (bA_ BK169) hg (Kd.R_ne HO_6.out BK169.out (by decide))); have n3_ := zA ((by rw [hw]; exact zS (HB.out) GB59.out : Below w.heap.size w w62)); clear HO_6; clear HO_9; clear BK169; clear HB; have HO_6 := n0_; have HO_9 := n1_; have BK169 := n2_; have HB := n3_; clear n0_ n1_ n2_ n3_; clear hg hw hp_))
                     (try simp only [← hl6_4])
                     go_roundg k4
                     case measure => have := HK1.out; have := HK2.out; have := HK3.out; have := HK4.out; omega
                     case rel => exact ⟨(y187), (wrap64 (x82_4 + 1)), (by first | rfl | (simp; done) | (simp [*]; done)), H', ⟨by have := HK1.out; have := HK2.out; have := HK3.out; have := HK4.out; omega⟩, ⟨by (try simp only [hl6_4]); (with_reducible repeat (first | apply zF | apply zE | apply zG)); exact HO_6.out⟩, ⟨by (try simp only [hl6_4]); (with_reducible repeat (first | apply zF | apply zE | apply zG)); exact HO_9.out⟩, ⟨by (try simp only [hl6_4]); (with_reducible repeat (first | refine zM ?_ _ | refine zN ?_ | refine zO ?_ _)); exact BK169.out⟩, ⟨bB_ HB⟩⟩
                    ·rw [if_neg c58] at H
                     exact absurd H (by simp)
                   ·rw [if_neg c57] at H
                    exact absurd H (by simp)
                  ·rw [if_neg c56] at H
                   exact absurd H (by simp)
                 ·rw [if_neg c55] at H
                  have c55b0 : (x7_1 == 0) = false := beq_eq_false_iff_ne.mpr c55
                  have c55b1 : (x7_1 != 0) = true := bne_iff_ne.mpr c55
                  by_cases c63 : 0 ≤ x82_4
                  ·rw [if_pos c63] at H
                   have c63b0 : decide (0 ≤ x82_4) = true := decide_eq_true c63
                   clear c63
                   by_cases c64 : x82_4 < (x9_3.length : Int)
                   ·rw [if_pos c64] at H
                    have c64b0 : decide (x82_4 < (x9_3.length : Int)) = true := decide_eq_true c64
                    (try (have c64b0l := c64b0; rw [hl6_4] at c64b0l))
                    clear c64
                    by_cases c65 : x82_4 < (x6_4.length : Int)
                    ·rw [if_pos c65] at H
                     have c65b0 : decide (x82_4 < (x6_4.length : Int)) = true := decide_eq_true c65
                     (try (have c65b0l := c65b0; rw [hl6_4] at c65b0l))
                     clear c65
                     obtain ⟨y189, hy189⟩ : ∃ y_ : List (S48), y_ = (x6_4.set (x82_4 : Int).toNat (⟨(rd_T48 x6_4 x82_4).f0, rd x9_3 x82_4⟩ : S48)) := ⟨_, rfl⟩
                     replace H : (impl_leastOf.l3 k4 l1 y189 x7_1 x9_3 (x6_1.length : Int) (wrap64 (x82_4 + 1)) a0_0 l0_1) = some (r1, r2) := by first | (rw [hy189]; with_reducible exact H) | (have H2_ := (Option.bind_some _ _).symm.trans H; rw [hy189]; with_reducible exact H2_) | (have H2_ := (Option.bind_some _ _).symm.trans H; with_reducible exact H2_) | with_reducible exact H | (rw [hy189]; exact H) | exact H
                     have Ny189 := zA hy189
                     clear hy189
                     have H' := zA H
                     clear H
                     obtain ⟨Ao67, co67, eo67⟩ := Kd.R_slice HO_9.out
                     subst eo67
                     have p188 : 0 ≤ (x82_4 : Int) := of_decide_eq_true (by first | (with_reducible assumption) | assumption)
                     have q188 : x82_4 < (x9_3.length : Int) := of_decide_eq_true (by first | (with_reducible assumption) | assumption)
                     obtain ⟨ad188, e188, hx188_0⟩ := Kd.at_int (zK HO_9.out).2.2 x82_4 p188 q188
                     cases e188
                     replace p188 := eq_true p188
                     replace q188 := eq_true q188
                     have p66 : 0 ≤ (x82_4 : Int) := of_decide_eq_true (by first | (with_reducible assumption) | assumption)
                     have q66 : (x82_4 : Int) < ((x6_4.length : Int) : Int) := of_decide_eq_true (by first | (with_reducible assumption) | assumption)
                     obtain ⟨go66, co66, eo66, gb66, gl66, cl66, HG66⟩ := Kd.R_form HO_6.out (by omega)
                     (first | cases eo66 | (injection eo66 with ea_ en_ ec_; (first | subst ea_ | (injection ea_ with ea_; subst ea_)); subst ec_; clear en_))
                     have GB66 := zA gb66
                     have GG66 := zA HG66
                     clear gb66 gl66 HG66
                     obtain ⟨ce66, hcl66, hM66, hcc66, hfr66⟩ := Kd.R_elem HO_6.out z48 (x82_4 : Int) p66 q66
                     obtain rfl := k48_openM hM66
                     have hx66_0 : wr.cell? ⟨go66, (x82_4 : Int).toNat * 2, none⟩ = some (.int .i64 ((rd_T48 x6_4 x82_4).f0)) := hcc66 0 _ rfl
                     have hx66_1 : wr.cell? ⟨go66, (x82_4 : Int).toNat * 2 + 1, none⟩ = some (.int .i64 ((rd_T48 x6_4 x82_4).f1)) := hcc66 1 _ rfl
                     have hf66_0 : wr.frozen? ⟨go66, (x82_4 : Int).toNat * 2, none⟩ = false := hfr66 0
                     have hf66_1 : wr.frozen? ⟨go66, (x82_4 : Int).toNat * 2 + 1, none⟩ = false := hfr66 1
                     clear hcl66 hcc66 hfr66 hM66
                     replace p66 := eq_true p66
                     replace q66 := eq_true q66
                     have HX68 := zA (show Kd.R k48 48 wr w.heap.size (fun _ => True) (.slice (some ⟨go66, 0, none⟩) x6_4.length co53) x6_4 from (bC_ HO_6))
                     obtain ⟨ce68, hcl68, hM68, hcc68, hfr68⟩ := Kd.R_elem HX68.out z48 (x82_4 : Int) (of_decide_eq_true (by first | (with_reducible assumption) | assumption)) (by have h_ : (x82_4 : Int) < ((x6_4.length : Int) : Int) := of_decide_eq_true (by first | (with_reducible assumption) | assumption); first | exact h_ | (have e_ := (zK HO_6.out).1; omega) | simpa using h_)
                     obtain rfl := k48_openM hM68
                     have HP68 := Kd.R_seg HX68.out (x82_4 : Int) (of_decide_eq_true (by first | (with_reducible assumption) | assumption)) (by have h_ : (x82_4 : Int) < ((x6_4.length : Int) : Int) := of_decide_eq_true (by first | (with_reducible assumption) | assumption); first | exact h_ | (have e_ := (zK HO_6.out).1; omega) | simpa using h_) (seg := [.int .i64 (rd x9_3 x82_4)]) (j := 1) hcl68 hcc68 (show 2 ≤ 2 from by decide) (x' := (⟨(rd_T48 x6_4 x82_4).f0, rd x9_3 x82_4⟩ : S48)) (k48_mkM _ _ _ (⟨(rd_T48 x6_4 x82_4).f0, rd x9_3 x82_4⟩ : S48) ) (fun _ hk => hk)
                     have hx68_1 := hcc68 1 _ rfl
                     (try simp only [show (k48).sz = 2 from rfl, Nat.mul_one, Nat.add_zero] at hx68_1)
                     have hf68_1 := hfr68 1
                     (try simp only [show (k48).sz = 2 from rfl, Nat.mul_one, Nat.add_zero] at hf68_1)
                     clear hcl68 hcc68 hfr68 hM68
                     go_wp2_with (first | ((with_reducible refine gate_store (t := 3) (p := 102) rfl ?_); refine store_event (t := 3) (p := 102) (v := ?vo_w69) (w1 := (wr.setCell ⟨go66, (x82_4 : Int).toNat * 2 + 1, none⟩ (.int .i64 (rd x9_3 x82_4)))) ?hg ?ho ?hn ?hr ?_; (case ho => rfl); (case hg => rfl); (case hn => rfl); (case hr => first | (go_simp; done) | (go_simp; rfl)); intro w69 hw; have hg : wr.grownBy w69 (some go66) := (by rw [hw]; exact HP68.2); have hp_ : Kd.R k48 48 w69 w.heap.size (fun _ => True) (.slice (some ⟨go66, 0, none⟩) x6_4.length co53) y189 := (by rw [hw, Ny189.out]; exact HP68.1); clear HP68; have n0_ := zA (hp_); have n1_ := zA (Kd.R_over' (v := (.slice (some ⟨go66, 0, none⟩) x6_4.length co53)) (bC_ HO_9) (Kd.R_typed HO_6.out) (by decide) hg); have n2_ := zA (blk_grown (g := gb169) (o := .cells #[.int .i64 a0_0, .slice A0_1 l0_1.length c0_1] 25 (0, 0)) (bA_ BK169) hg (Kd.R_ne HO_6.out BK169.out (by decide))); have n3_ := zA ((by rw [hw]; exact zS (HB.out) GB66.out : Below w.heap.size w w69)); clear HO_6; clear HO_9; clear BK169; clear HB; have HO_6 := n0_; have HO_9 := n1_; have BK169 := n2_; have HB := n3_; clear n0_ n1_ n2_ n3_; clear hg hw hp_))
                     (try simp only [← hl6_4])
                     go_roundg k4
                     case measure => have := HK1.out; have := HK2.out; have := HK3.out; have := HK4.out; omega
                     case rel => exact ⟨(y189), (wrap64 (x82_4 + 1)), (by first | rfl | (simp; done) | (simp [*]; done)), H', ⟨by have := HK1.out; have := HK2.out; have := HK3.out; have := HK4.out; omega⟩, ⟨by (try simp only [hl6_4]); (with_reducible repeat (first | apply zF | apply zE | apply zG)); exact HO_6.out⟩, ⟨by (try simp only [hl6_4]); (with_reducible repeat (first | apply zF | apply zE | apply zG)); exact HO_9.out⟩, ⟨by (try simp only [hl6_4]); (with_reducible repeat (first | refine zM ?_ _ | refine zN ?_ | refine zO ?_ _)); exact BK169.out⟩, ⟨bB_ HB⟩⟩
                    ·rw [if_neg c65] at H
                     exact absurd H (by simp)
                   ·rw [if_neg c64] at H
                    exact absurd H (by simp)
                  ·rw [if_neg c63] at H
                   exact absurd H (by simp)
                ·rw [if_neg c54] at H
                 have c54b0 : decide (x82_4 < (x6_1.length : Int)) = false := decide_eq_false c54
                 (try (have c54b0l := c54b0; rw [hl6_4] at c54b0l))
                 clear c54
                 have H' := zA H
                 clear H
                 go_wp2
                 (try simp only [← hl6_4])
                 go_roundg k4
                 case measure => have := HK1.out; have := HK2.out; have := HK3.out; have := HK4.out; omega
                 case rel => exact ⟨(x6_4), (wrap64 (x7_1 + 1)), (by first | rfl | (simp; done) | (simp [*]; done)), H', ⟨by have := HK1.out; have := HK2.out; have := HK3.out; have := HK4.out; omega⟩, ⟨by (try simp only [hl6_4]); (with_reducible repeat (first | apply zF | apply zE | apply zG)); exact HO_6.out⟩, ⟨by (try simp only [hl6_4]); (with_reducible repeat (first | refine zM ?_ _ | refine zN ?_ | refine zO ?_ _)); exact BK169.out⟩, ⟨bB_ HB⟩⟩
       ·rw [if_neg c13] at H
        exact absurd H (by simp)
      ·rw [if_neg c12] at H
       exact absurd H (by simp)
     ·rw [if_neg c9] at H
      have c9b0 : decide (x7_1 < 2) = false := decide_eq_false c9
      clear c9
      simp only [Option.some.injEq, Prod.mk.injEq] at H
      obtain ⟨rfl, rfl⟩ := H
      go_wp2
      go_ret2
      exact ⟨_, by first | rfl | (simp [errW_none, errW_some] <;> rfl) | (simp [*, errW_none, errW_some] <;> rfl), bC_ HO_6, bB_ HB⟩
  ·rw [if_neg c4] at H
   exact absurd H (by simp)
 ·rw [if_neg c3] at H
  exact absurd H (by simp)

end Go.Proofs.Ytnbkdfnlggmopaa.PFnExactSketchMove
