/- Written for this claim by a program of this session: the functions that the law reaches, each with its contract. -/
import Derived.Test.YtnbkdfnlggmopaaPFnExactSketchMovex0
namespace Go.Proofs.Ytnbkdfnlggmopaa.PFnExactSketchMove
open Go.RowKit Go.Proofs.YtnbkdfnlggmopaaW.PrintWords Go.Proofs.YtnbkdfnlggmopaaW.PrintLast Go.Proofs.YtnbkdfnlggmopaaW.PrintMore
open Go.Proofs.YtnbkdfnlggmopaaW.PrintWords.Aside0 renaming mk → zA
open List renaming setIfInBounds_toArray → zB, set_cons_zero → zC, set_cons_succ → zD
open Go.Proofs.YtnbkdfnlggmopaaW.PrintWords.Kd renaming R_drewN → zE, R_alloc → zF, R_drew → zG, C_drewN → zH, C_alloc → zI, C_drew → zJ, R_reads' → zK, R_below → zL
open Go.Proofs.YtnbkdfnlggmopaaW.PrintWords renaming blk_drewN → zM, blk_drew → zN, blk_alloc → zO, below_drew1 → zQ, below_size → zT, blk_below → zU
attribute [local go_sem] i64_w max2_int min2_int max_two min_two max_three min_three max_four min_four
set_option linter.unusedVariables false
set_option linter.unusedSimpArgs false

mutual
def spec_l04Steps.l0 : Nat → List Int → Int → Int → List (S92) → Int → Int → List (S35) → Option ((List (S92)))
 | 0, _, _, _, _, _, _, _ => none
 | k + 1, x1, x2, x7, x8, x9, x242000, x242001 => if x9 < x7 then ((some (([(⟨x7, x9, 0⟩ : S92), (⟨x9, x7, (-100000)⟩ : S92)] : List (S92)) : List (S92))).bind fun y245 => (if x8.length + y245.length < 5864062014805 then (spec_l04Steps.l0 k x1 x2 x7 (x8 ++ y245) (wrap64 (x9 + 1)) x242000 x242001) else (none))) else (spec_l04Steps.l1 k x1 x2 x7 x8 0 x242000 x242001)
def spec_l04Steps.l1 : Nat → List Int → Int → Int → List (S92) → Int → Int → List (S35) → Option ((List (S92)))
 | 0, _, _, _, _, _, _, _ => none
 | k + 1, x1, x2, x7, x8, x10, x242000, x242001 => if x10 < (x1.length : Int) then (if 0 ≤ x10 then (if 0 ≤ (rd x1 x10) then (if (rd x1 x10) < (x242001.length : Int) then (if ((rd_T35 x242001 (rd x1 x10)).f0) = (wrap64 (1 + x2)) then ((some (([(⟨x7, (rd_T35 x242001 (rd x1 x10)).f1, (rd_T35 x242001 (rd x1 x10)).f3⟩ : S92), (⟨(rd_T35 x242001 (rd x1 x10)).f1, x7, wrap64 (-((rd_T35 x242001 (rd x1 x10)).f3))⟩ : S92)] : List (S92)) : List (S92))).bind fun y254 => (if x8.length + y254.length < 5864062014805 then (spec_l04Steps.l1 k x1 x2 x7 (x8 ++ y254) (wrap64 (x10 + 1)) x242000 x242001) else (none))) else (if ((rd_T35 x242001 (rd x1 x10)).f0) = (wrap64 (3 + x2)) then ((some (([(⟨(rd_T35 x242001 (rd x1 x10)).f1, (rd_T35 x242001 (rd x1 x10)).f2, (rd_T35 x242001 (rd x1 x10)).f3⟩ : S92), (⟨(rd_T35 x242001 (rd x1 x10)).f2, (rd_T35 x242001 (rd x1 x10)).f1, wrap64 (-((rd_T35 x242001 (rd x1 x10)).f3))⟩ : S92)] : List (S92)) : List (S92))).bind fun y260 => (if x8.length + y260.length < 5864062014805 then (spec_l04Steps.l1 k x1 x2 x7 (x8 ++ y260) (wrap64 (x10 + 1)) x242000 x242001) else (none))) else (if ((rd_T35 x242001 (rd x1 x10)).f0) = (wrap64 (5 + x2)) then (if x8.length < 5864062014805 then (spec_l04Steps.l1 k x1 x2 x7 (x8 ++ [(⟨(rd_T35 x242001 (rd x1 x10)).f1, (rd_T35 x242001 (rd x1 x10)).f2, (rd_T35 x242001 (rd x1 x10)).f3⟩ : S92)]) (wrap64 (x10 + 1)) x242000 x242001) else (none)) else (if ((rd_T35 x242001 (rd x1 x10)).f0) = (wrap64 (7 + x2)) then ((some (([(⟨(rd_T35 x242001 (rd x1 x10)).f1, (rd_T35 x242001 (rd x1 x10)).f2, 0⟩ : S92), (⟨(rd_T35 x242001 (rd x1 x10)).f2, (rd_T35 x242001 (rd x1 x10)).f1, 0⟩ : S92)] : List (S92)) : List (S92))).bind fun y269 => (if x8.length + y269.length < 5864062014805 then (spec_l04Steps.l1 k x1 x2 x7 (x8 ++ y269) (wrap64 (x10 + 1)) x242000 x242001) else (none))) else (if ((rd_T35 x242001 (rd x1 x10)).f0) = 9 then ((some (([(⟨(rd_T35 x242001 (rd x1 x10)).f1, (rd_T35 x242001 (rd x1 x10)).f2, 0⟩ : S92), (⟨(rd_T35 x242001 (rd x1 x10)).f2, (rd_T35 x242001 (rd x1 x10)).f1, 0⟩ : S92)] : List (S92)) : List (S92))).bind fun y275 => (if x8.length + y275.length < 5864062014805 then (spec_l04Steps.l1 k x1 x2 x7 (x8 ++ y275) (wrap64 (x10 + 1)) x242000 x242001) else (none))) else (spec_l04Steps.l1 k x1 x2 x7 x8 (wrap64 (x10 + 1)) x242000 x242001)))))) else (none)) else (none)) else (none)) else (some x8)
end
def spec_l04Steps.f (k : Nat) (a0_0 : Int) (l0_1 : List (S35)) (l1 : List Int) (a2 : Int) : Option ((List (S92))) := spec_l04Steps.l0 k l1 a2 a0_0 (([] : List (S92))) 0 a0_0 l0_1
theorem spec_l04Steps.mono_l : ∀ k, (∀ y0 y1 y2 y3 y4 y5 y6, LeO (spec_l04Steps.l0 k y0 y1 y2 y3 y4 y5 y6) (spec_l04Steps.l0 (k + 1) y0 y1 y2 y3 y4 y5 y6)) ∧ (∀ y0 y1 y2 y3 y4 y5 y6, LeO (spec_l04Steps.l1 k y0 y1 y2 y3 y4 y5 y6) (spec_l04Steps.l1 (k + 1) y0 y1 y2 y3 y4 y5 y6))
 | 0 => ⟨fun _ _ _ _ _ _ _ r h => by simp [spec_l04Steps.l0] at h, fun _ _ _ _ _ _ _ r h => by simp [spec_l04Steps.l1] at h⟩
 | k + 1 => by
  obtain ⟨ih0, ih1⟩ := spec_l04Steps.mono_l k
  refine ⟨?_, ?_⟩
  ·intro y0 y1 y2 y3 y4 y5 y6
   unfold spec_l04Steps.l0
   repeat' first
   | (with_reducible exact ih0 _ _ _ _ _ _ _)
   | (with_reducible exact ih1 _ _ _ _ _ _ _)
   | (with_reducible exact LeO.refl _)
   | (with_reducible exact LeO.none _)
   | (with_reducible refine LeO.ite ?_ ?_)
   | (with_reducible refine LeO.bind ?_ (fun _ => ?_))
   | exact ih0 _ _ _ _ _ _ _
   | exact ih1 _ _ _ _ _ _ _
   | exact LeO.none _
   | refine LeO.ite ?_ ?_
   | refine LeO.bind ?_ (fun _ => ?_)
  ·intro y0 y1 y2 y3 y4 y5 y6
   unfold spec_l04Steps.l1
   repeat' first
   | (with_reducible exact ih0 _ _ _ _ _ _ _)
   | (with_reducible exact ih1 _ _ _ _ _ _ _)
   | (with_reducible exact LeO.refl _)
   | (with_reducible exact LeO.none _)
   | (with_reducible refine LeO.ite ?_ ?_)
   | (with_reducible refine LeO.bind ?_ (fun _ => ?_))
   | exact ih0 _ _ _ _ _ _ _
   | exact ih1 _ _ _ _ _ _ _
   | exact LeO.none _
   | refine LeO.ite ?_ ?_
   | refine LeO.bind ?_ (fun _ => ?_)
theorem spec_l04Steps.mono : ∀ a0 a1 a2 a3 k, LeO (spec_l04Steps.f k a0 a1 a2 a3) (spec_l04Steps.f (k + 1) a0 a1 a2 a3) := by
 intro a0 a1 a2 a3 k
 obtain ⟨ih0, ih1⟩ := spec_l04Steps.mono_l k
 unfold spec_l04Steps.f
 repeat' first
   | (with_reducible exact ih0 _ _ _ _ _ _ _)
   | (with_reducible exact ih1 _ _ _ _ _ _ _)
   | (with_reducible exact LeO.refl _)
   | (with_reducible exact LeO.none _)
   | (with_reducible refine LeO.ite ?_ ?_)
   | (with_reducible refine LeO.bind ?_ (fun _ => ?_))
   | exact ih0 _ _ _ _ _ _ _
   | exact ih1 _ _ _ _ _ _ _
   | exact LeO.none _
   | refine LeO.ite ?_ ?_
   | refine LeO.bind ?_ (fun _ => ?_)
def spec_l04Steps.T10 : Bool × List (List Nat × List Nat) := (true, [([], []), ([0], [0]), ([], []), ([], []), ([2, 3], [2, 3]), ([4], [4]), ([1, 5], [1, 5]), ([6], [6]), ([], []), ([8, 7, 0, 1, 2, 3, 4, 5, 6, 7, 8], [7, 8])])
def spec_l04Steps.B10 : List Nat := [0, 1, 0, 0, 12, 28, 63, 127, 0, 511]
theorem spec_l04Steps.tab10 : rtab .any (opsOf Try.f56 10) = spec_l04Steps.T10 := by kernel_rfl
theorem spec_l04Steps.bits10 : waitsOk spec_l04Steps.T10.2 spec_l04Steps.B10 = true := by kernel_rfl
set_option maxHeartbeats 8000000 in
set_option maxRecDepth 100000 in
theorem spec_l04Steps.calls (k : Nat) (a0_0 : Int) (A0_1 : Option Addr) (c0_1 : Nat) (l0_1 : List (S35)) (A1 : Option Addr) (c1 : Nat) (l1 : List Int) (a2 : Int) (r : List (S92)) (w : World) (hr0_1 : Kd.C k35 w A0_1 l0_1.length l0_1) (hc0_1 : l0_1.length ≤ c0_1) (hr1 : Kd.C (Kd.int .i64) w A1 l1.length l1) (hc1 : l1.length ≤ c1) (h : spec_l04Steps.f k a0_0 l0_1 l1 a2 = some r) :
  Calls Try.prog 56 #[.agg #[.int .i64 a0_0, .slice A0_1 l0_1.length c0_1], .slice A1 l1.length c1, .int .i64 a2] w fun e w' => ∃ v0_ : Value, e = .returned (v0_) ∧ Kd.R k92 92 w' w.heap.size (fun _ => True) v0_ r ∧ Below w.heap.size w w' := by
 have hu25 := Try.underlying25
 have hu92 := Try.underlying92
 have hu35 := Try.underlying35
 have HR0_1 := zA hr0_1
 have HC0_1 := zA hc0_1
 clear hr0_1 hc0_1
 have HR1 := zA hr1
 have HC1 := zA hc1
 clear hr1 hc1
 have HB := zA (Below.refl w.heap.size w)
 have H : (spec_l04Steps.l0 k l1 a2 a0_0 (([] : List (S92))) 0 a0_0 l0_1) = some r := h
 clear h
 obtain ⟨y242, hy242⟩ : ∃ y_ : List (S92), y_ = (([] : List (S92))) := ⟨_, rfl⟩
 replace H : (spec_l04Steps.l0 k l1 a2 a0_0 y242 0 a0_0 l0_1) = some r := by first | (rw [hy242]; with_reducible exact H) | (have H2_ := (Option.bind_some _ _).symm.trans H; rw [hy242]; with_reducible exact H2_) | (have H2_ := (Option.bind_some _ _).symm.trans H; with_reducible exact H2_) | with_reducible exact H | (rw [hy242]; exact H) | exact H
 have Ny242 := zA hy242
 clear hy242
 have H' := zA H
 clear H
 go_enter Try.func56, Try.ntmps56
 go_wp2_with (first | ((with_reducible refine gate_dst (N := 3) rfl ?_); refine box_event ?hg (N := 3) ?hd (cs := #[.int .i64 a0_0, .slice A0_1 l0_1.length c0_1]) (t := 25) ?hr ?_; (case hd => rfl); (case hg => rfl); (case hr => first | (go_simp; done) | (go_simp; rfl)); intro gb241 hg w4 hbox hb; have n0_ := zA (below_step (bB_ HB) hb); have n1_ := zA (hbox); have n2_ := zA ((by rw [hg]; exact (zT (bB_ HB)) : w.heap.size ≤ gb241)); have n3_ := zA ((by rw [hg]; exact (zT (bB_ HB)) : w.heap.size ≤ gb241)); clear HB; have HB := n0_; have BK241 := n1_; have GW241 := n2_; have GE241 := n3_; clear n0_ n1_ n2_ n3_; clear hb hbox hg; have hcz5_0 : w4.cell? ⟨gb241, 0, none⟩ = some (.int .i64 a0_0) := (blk_cell BK241.out 0).trans rfl; have hcz5_1 : w4.cell? ⟨gb241, 1, none⟩ = some (.slice A0_1 l0_1.length c0_1) := (blk_cell BK241.out 1).trans rfl; have hfz5_0 := blk_frozen BK241.out 0; have hfz5_1 := blk_frozen BK241.out 1) | ((with_reducible refine gate_dst (N := 14) rfl ?_); refine Kd.R_lit k92 _ 92 ?hg (N := 14) ?hd (xs := ([] : List (S92))) (inner := []) (ok := fun _ => True) (okp := fun _ => True) ?hr ?hp (fun _ hk => hk) trivial (Below.refl _ _) (Nat.le_refl _) (by simp) ?_; (case hd => rfl); (case hg => rfl); (case hr => first | (go_simp; done) | (go_simp; rfl)); (case hp => exact (Reps.none _ _)); intro v243 w6 ho7 hb hg_ hnew_; clear hg_ hnew_; (first | rw [← Ny242.out] at ho7 | (simp only [Int.reduceToNat] at ho7; rw [← Ny242.out] at ho7)); have n0_ := zA (Kd.R_lower ho7 (zT (bB_ HB))); have n1_ := zA (zU (g := gb241) (o := .cells #[.int .i64 a0_0, .slice A0_1 l0_1.length c0_1] 25 (0, 0)) (bA_ BK241) hb); have n2_ := zA (below_step (bB_ HB) hb); clear BK241; clear HB; have HO244 := n0_; have BK241 := n1_; have HB := n2_; clear n0_ n1_ n2_; clear hb ho7))
 go_loopg [8, 9] k (fun kq v8 v9 w' => ∃ (x8_1 : List (S92)) (x9_1 : Int), v9 = .int .i64 x9_1 ∧ Aside0 (spec_l04Steps.l0 kq l1 a2 a0_0 x8_1 x9_1 a0_0 l0_1 = some r) ∧ Aside0 (kq ≤ k) ∧ Aside0 (Kd.R k92 92 w' w.heap.size (fun _ => True) v8 x8_1) ∧ Aside0 (w'.heap[gb241]? = some (.cells #[.int .i64 a0_0, (.slice A0_1 l0_1.length c0_1)] 25 (0, 0))) ∧ Aside0 (Below w.heap.size w w'))
 case atStart => exact ⟨(y242), (0), (by first | rfl | (simp; done) | (simp [*]; done)), H', ⟨Nat.le_refl _⟩, ⟨bC_ HO244⟩, ⟨bA_ BK241⟩, ⟨bB_ HB⟩⟩
 case round =>
  clear H'
  try clear c1
  try clear p2
  try clear c5
  try clear hcz5_0
  try clear hcz5_1
  try clear hfz5_0
  try clear hfz5_1
  obtain ⟨x8_1, x9_1, rfl, HA, HK1, HO_8, BK241, HB⟩ := hrel
  cases gk with
  | zero => exact absurd HA.out (by simp [spec_l04Steps.l0])
  | succ k1 =>
   have H := HA.out
   clear HA
   simp only [spec_l04Steps.l0] at H
   by_cases c8 : x9_1 < a0_0
   ·rw [if_pos c8] at H
    have c8b0 : decide (x9_1 < a0_0) = true := decide_eq_true c8
    clear c8
    obtain ⟨y245, hy245⟩ : ∃ y_ : List (S92), y_ = (([(⟨a0_0, x9_1, 0⟩ : S92), (⟨x9_1, a0_0, (-100000)⟩ : S92)] : List (S92))) := ⟨_, rfl⟩
    replace H : (if x8_1.length + y245.length < 5864062014805 then (spec_l04Steps.l0 k1 l1 a2 a0_0 (x8_1 ++ y245) (wrap64 (x9_1 + 1)) a0_0 l0_1) else (none)) = some r := by first | (rw [hy245]; with_reducible exact H) | (have H2_ := (Option.bind_some _ _).symm.trans H; rw [hy245]; with_reducible exact H2_) | (have H2_ := (Option.bind_some _ _).symm.trans H; with_reducible exact H2_) | with_reducible exact H | (rw [hy245]; exact H) | exact H
    have Ny245 := zA hy245
    clear hy245
    by_cases c9 : x8_1.length + y245.length < 5864062014805
    ·rw [if_pos c9] at H
     have LMc9 := zA c9
     clear c9
     obtain ⟨y248, hy248⟩ : ∃ y_ : List (S92), y_ = (x8_1 ++ y245) := ⟨_, rfl⟩
     replace H : (spec_l04Steps.l0 k1 l1 a2 a0_0 y248 (wrap64 (x9_1 + 1)) a0_0 l0_1) = some r := by first | (rw [hy248]; with_reducible exact H) | (have H2_ := (Option.bind_some _ _).symm.trans H; rw [hy248]; with_reducible exact H2_) | (have H2_ := (Option.bind_some _ _).symm.trans H; with_reducible exact H2_) | with_reducible exact H | (rw [hy248]; exact H) | exact H
     have Ny248 := zA hy248
     clear hy248
     have H' := zA H
     clear H
     go_wp2_with (first | ((with_reducible refine gate_dst (N := 27) rfl ?_); refine Kd.R_lit k92 _ 92 ?hg (N := 27) ?hd (xs := ([(⟨a0_0, x9_1, 0⟩ : S92), (⟨x9_1, a0_0, (-100000)⟩ : S92)] : List (S92))) (inner := [.int .i64 a0_0, .int .i64 x9_1, .int .i64 0, .int .i64 x9_1, .int .i64 a0_0, .int .i64 (-100000)]) (ok := fun _ => True) (okp := fun _ => True) ?hr ?hp (fun _ hk => hk) trivial (Below.refl _ _) (Nat.le_refl _) (by simp) ?_; (case hd => rfl); (case hg => rfl); (case hr => first | (go_simp; done) | (go_simp; rfl)); (case hp => exact (Reps.c3 (show Kd.M k92 _ _ _ (⟨a0_0, x9_1, 0⟩ : S92) [.int .i64 a0_0, .int .i64 x9_1, .int .i64 0] from (k92_mkM _ _ _ (⟨a0_0, x9_1, 0⟩ : S92) )) (Reps.c3 (show Kd.M k92 _ _ _ (⟨x9_1, a0_0, (-100000)⟩ : S92) [.int .i64 x9_1, .int .i64 a0_0, .int .i64 (-100000)] from (k92_mkM _ _ _ (⟨x9_1, a0_0, (-100000)⟩ : S92) )) (Reps.none _ _)))); intro v246 w10 ho11 hb hg_ hnew_; clear hg_ hnew_; (first | rw [← Ny245.out] at ho11 | (simp only [Int.reduceToNat] at ho11; rw [← Ny245.out] at ho11)); have n0_ := zA (Kd.R_elder' (bC_ HO_8) (Kd.R_base ho11) hb); have n1_ := zA (Kd.R_lower (Kd.R_new' ho11 (Kd.R_lt (bC_ HO_8))) (zT (bB_ HB))); have n2_ := zA (zU (g := gb241) (o := .cells #[.int .i64 a0_0, .slice A0_1 l0_1.length c0_1] 25 (0, 0)) (bA_ BK241) hb); have n3_ := zA (below_step (bB_ HB) hb); clear HO_8; clear BK241; clear HB; have HO_8 := n0_; have HO247 := n1_; have BK241 := n2_; have HB := n3_; clear n0_ n1_ n2_ n3_; clear hb ho11; obtain ⟨Ao13, co13, eo13⟩ := Kd.R_slice HO247.out; subst eo13) | ((with_reducible refine gate_builtin (b := .append) (xs := #[.tmp 20, .tmp 27]) rfl ?_); at_builtin; refine Kd.R_append_rows k92 (w0 := w) w.heap.size rfl (.tmp 20) (.tmp 27) 89 92 (.agg #[(.int .i64 0), (.int .i64 0), (.int .i64 0)]) 24 rfl Try.underlying89 info92 rfl (by decide) (by omega) u8 x8_1 y245 _ _ _ (fun k_ => some k_ ≠ (.slice Ao13 y245.length co13 : Value).ownBlock) (fun _ => False) rfl rfl ?aO ?aR (fun _ _ h => h) (fun _ h => h.elim) ?aF ?aB ?aS ?aL ?_; (case aR => repeat (first | exact (zK HO247.out).2.2 | (with_reducible refine zI ?_ _) | (with_reducible refine zH ?_ _) | (with_reducible refine zJ ?_))); (case aB => exact (bB_ HB)); (case aF => exact (fun k_ hk => Kd.fresh' (Kd.R_lt (bC_ HO247)) k_ hk)); (case aO => exact (by (with_reducible repeat (first | apply zF | apply zE | apply zG)); exact Kd.R_mono HO_8.out (fun _ hk => hk.2))); (case aS => exact (zT (bB_ HB))); (case aL => have := LMc9.out; omega); intro v249 w12 ho hb hg hat; rw [← Ny248.out] at ho; have n0_ := zA (blk_grown (g := gb241) (o := .cells #[.int .i64 a0_0, .slice A0_1 l0_1.length c0_1] 25 (0, 0)) (bA_ BK241) hg (Kd.R_ne HO_8.out BK241.out (by decide))); have n1_ := zA (Kd.R_after (ok := (fun _ => True)) (bC_ HO247) hg hat); have n2_ := zA (hb); have n3_ := zA (ho); clear BK241; clear HO247; clear HB; clear HO_8; have BK241 := n0_; have HO247 := n1_; have HB := n2_; have HO250 := n3_; clear n0_ n1_ n2_ n3_; clear ho hb hg hat))
     go_roundg k1
     case measure => have := HK1.out; omega
     case rel => exact ⟨(y248), (wrap64 (x9_1 + 1)), (by first | rfl | (simp; done) | (simp [*]; done)), H', ⟨by have := HK1.out; omega⟩, ⟨by (with_reducible repeat (first | apply zF | apply zE | apply zG)); exact Kd.R_mono HO250.out (fun _ hk => trivial)⟩, ⟨bA_ BK241⟩, ⟨bB_ HB⟩⟩
    ·rw [if_neg c9] at H
     exact absurd H (by simp)
   ·rw [if_neg c8] at H
    have c8b0 : decide (x9_1 < a0_0) = false := decide_eq_false c8
    clear c8
    have H' := zA H
    clear H
    go_wp2
    go_loopg [8, 10] k1 (fun kq v8 v10 w' => ∃ (x8_2 : List (S92)) (x10_2 : Int), v10 = .int .i64 x10_2 ∧ Aside0 (spec_l04Steps.l1 kq l1 a2 a0_0 x8_2 x10_2 a0_0 l0_1 = some r) ∧ Aside0 (kq ≤ k1) ∧ Aside0 (Kd.R k92 92 w' w.heap.size (fun _ => True) v8 x8_2) ∧ Aside0 (w'.heap[gb241]? = some (.cells #[.int .i64 a0_0, (.slice A0_1 l0_1.length c0_1)] 25 (0, 0))) ∧ Aside0 (Below w.heap.size w w'))
    case atStart => exact ⟨(x8_1), (0), (by first | rfl | (simp; done) | (simp [*]; done)), H', ⟨Nat.le_refl _⟩, ⟨bC_ HO_8⟩, ⟨bA_ BK241⟩, ⟨bB_ HB⟩⟩
    case round =>
     clear H'
     try clear c1
     try clear p2
     try clear c3
     try clear c5
     try clear p6
     try clear c8
     try clear c8b0
     try clear c9
     try clear hcz5_0
     try clear hcz5_1
     try clear hfz5_0
     try clear hfz5_1
     try clear p2
     obtain ⟨x8_2, x10_2, rfl, HA, HK2, HO_8, BK241, HB⟩ := hrel
     cases gk with
     | zero => exact absurd HA.out (by simp [spec_l04Steps.l1])
     | succ k2 =>
      have H := HA.out
      clear HA
      simp only [spec_l04Steps.l1] at H
      by_cases c14 : x10_2 < (l1.length : Int)
      ·rw [if_pos c14] at H
       have c14b0 : decide (x10_2 < (l1.length : Int)) = true := decide_eq_true c14
       clear c14
       by_cases c15 : 0 ≤ x10_2
       ·rw [if_pos c15] at H
        have c15b0 : decide (0 ≤ x10_2) = true := decide_eq_true c15
        clear c15
        by_cases c16 : 0 ≤ (rd l1 x10_2)
        ·rw [if_pos c16] at H
         have c16b0 : decide (0 ≤ (rd l1 x10_2)) = true := decide_eq_true c16
         clear c16
         by_cases c17 : (rd l1 x10_2) < (l0_1.length : Int)
         ·rw [if_pos c17] at H
          have c17b0 : decide ((rd l1 x10_2) < (l0_1.length : Int)) = true := decide_eq_true c17
          clear c17
          by_cases c18 : ((rd_T35 l0_1 (rd l1 x10_2)).f0) = (wrap64 (1 + a2))
          ·rw [if_pos c18] at H
           have c18b0 : (((rd_T35 l0_1 (rd l1 x10_2)).f0) == (wrap64 (1 + a2))) = true := beq_iff_eq.mpr c18
           have c18b1 : (((rd_T35 l0_1 (rd l1 x10_2)).f0) != (wrap64 (1 + a2))) = false := bne_eq_false_iff_eq.mpr c18
           clear c18
           obtain ⟨y254, hy254⟩ : ∃ y_ : List (S92), y_ = (([(⟨a0_0, (rd_T35 l0_1 (rd l1 x10_2)).f1, (rd_T35 l0_1 (rd l1 x10_2)).f3⟩ : S92), (⟨(rd_T35 l0_1 (rd l1 x10_2)).f1, a0_0, wrap64 (-((rd_T35 l0_1 (rd l1 x10_2)).f3))⟩ : S92)] : List (S92))) := ⟨_, rfl⟩
           replace H : (if x8_2.length + y254.length < 5864062014805 then (spec_l04Steps.l1 k2 l1 a2 a0_0 (x8_2 ++ y254) (wrap64 (x10_2 + 1)) a0_0 l0_1) else (none)) = some r := by first | (rw [hy254]; with_reducible exact H) | (have H2_ := (Option.bind_some _ _).symm.trans H; rw [hy254]; with_reducible exact H2_) | (have H2_ := (Option.bind_some _ _).symm.trans H; with_reducible exact H2_) | with_reducible exact H | (rw [hy254]; exact H) | exact H
           have Ny254 := zA hy254
           clear hy254
           by_cases c19 : x8_2.length + y254.length < 5864062014805
           ·rw [if_pos c19] at H
            have LMc19 := zA c19
            clear c19
            obtain ⟨y257, hy257⟩ : ∃ y_ : List (S92), y_ = (x8_2 ++ y254) := ⟨_, rfl⟩
            replace H : (spec_l04Steps.l1 k2 l1 a2 a0_0 y257 (wrap64 (x10_2 + 1)) a0_0 l0_1) = some r := by first | (rw [hy257]; with_reducible exact H) | (have H2_ := (Option.bind_some _ _).symm.trans H; rw [hy257]; with_reducible exact H2_) | (have H2_ := (Option.bind_some _ _).symm.trans H; with_reducible exact H2_) | with_reducible exact H | (rw [hy257]; exact H) | exact H
            have Ny257 := zA hy257
            clear hy257
            have H' := zA H
            clear H
            try go_wp2
            have n0_ := zA (zG HO_8.out)
            have n1_ := zA (zN BK241.out)
            have n2_ := zA (zQ HB.out)
            clear HO_8
            clear BK241
            clear HB
            have HO_8 := n0_
            have BK241 := n1_
            have HB := n2_
            clear n0_ n1_ n2_
            have p251 : 0 ≤ (x10_2 : Int) := of_decide_eq_true (by first | (with_reducible assumption) | assumption)
            have q251 : x10_2 < (l1.length : Int) := of_decide_eq_true (by first | (with_reducible assumption) | assumption)
            obtain ⟨ad251, e251, hx251_0⟩ := Kd.at_int HR1.out x10_2 p251 q251
            have hw251_0 := hx251_0
            cases e251
            replace hx251_0 := hb_ HB.out hx251_0
            replace p251 := eq_true p251
            replace q251 := eq_true q251
            have p252 : 0 ≤ ((rd l1 x10_2) : Int) := of_decide_eq_true (by first | (with_reducible assumption) | assumption)
            have q252 : (rd l1 x10_2) < (l0_1.length : Int) := of_decide_eq_true (by first | (with_reducible assumption) | assumption)
            obtain ⟨ad252, e252, hx252_0, hx252_1, hx252_2, hx252_3⟩ := at_T35 HR0_1.out (rd l1 x10_2) p252 q252
            have hw252_3 := hx252_3
            have hw252_2 := hx252_2
            have hw252_1 := hx252_1
            have hw252_0 := hx252_0
            cases e252
            replace hx252_0 := hb_ HB.out hx252_0
            replace hx252_1 := hb_ HB.out hx252_1
            replace hx252_2 := hb_ HB.out hx252_2
            replace hx252_3 := hb_ HB.out hx252_3
            replace p252 := eq_true p252
            replace q252 := eq_true q252
            refine start_ (n := 10) (S := fun w' => w'.cell? ⟨gb241, 0, none⟩ = some (.int .i64 a0_0) ∧ w'.cell? ⟨gb241, 1, none⟩ = some (.slice (some ad252) l0_1.length c0_1) ∧ w'.cell? (ad251.add (x10_2).toNat) = some (.int .i64 (rd l1 x10_2)) ∧ w'.cell? (ad252.add (((rd l1 x10_2)).toNat * 4)) = some (.int .i64 ((rd_T35 l0_1 (rd l1 x10_2)).f0)) ∧ w'.cell? ⟨(ad252.add (((rd l1 x10_2)).toNat * 4)).block, (ad252.add (((rd l1 x10_2)).toNat * 4)).off + 1, none⟩ = some (.int .i64 ((rd_T35 l0_1 (rd l1 x10_2)).f1)) ∧ w'.cell? ⟨(ad252.add (((rd l1 x10_2)).toNat * 4)).block, (ad252.add (((rd l1 x10_2)).toNat * 4)).off + 2, none⟩ = some (.int .i64 ((rd_T35 l0_1 (rd l1 x10_2)).f2)) ∧ w'.cell? ⟨(ad252.add (((rd l1 x10_2)).toNat * 4)).block, (ad252.add (((rd l1 x10_2)).toNat * 4)).off + 3, none⟩ = some (.int .i64 ((rd_T35 l0_1 (rd l1 x10_2)).f3))) (ds := []) #[false, false, false, false, false, false, false, false, false, false] (by kernel_rfl) rfl rfl ⟨(blk_cell BK241.out 0).trans rfl, (blk_cell BK241.out 1).trans rfl, (hb_ HB.out hw251_0), (hb_ HB.out hw252_0), (hb_ HB.out hw252_1), (hb_ HB.out hw252_2), (hb_ HB.out hw252_3)⟩ (fun hHeld => ?_); refine with_tabW spec_l04Steps.tab10 spec_l04Steps.bits10 (fun HT_ HW_ => ?_)
            generalize wr.drew = w20 at HO_8 BK241 HB hx251_0 hx252_0 hx252_1 hx252_2 hx252_3 hHeld ⊢
            refine pure_ (i := 0) (N := some 35) (v := ?_) (a' := ?_) #[true, false, false, false, false, false, false, false, false, false] rfl rfl (any_of HT_.out (by kernel_rfl)) (fun _ _ _ h => h) (Or.inl ⟨by rfl, ?_⟩) ?_ ?_
            rotate_left
            ·intro w'
             go_simp
             with_reducible rfl
            rotate_left
            ·simp only [Act.put, zB, zC, zD, i64_w, i32_w]
             rfl
            refine pure_ (i := 2) (N := some 37) (v := ?_) (a' := ?_) #[true, false, true, false, false, false, false, false, false, false] rfl rfl (any_of HT_.out (by kernel_rfl)) (fun _ _ _ h => h) (Or.inl ⟨by rfl, ?_⟩) ?_ ?_
            rotate_left
            ·intro w'
             go_simp
             with_reducible rfl
            rotate_left
            ·simp only [Act.put, zB, zC, zD, i64_w, i32_w]
             rfl
            refine pure_ (i := 3) (N := some 38) (v := ?_) (a' := ?_) #[true, false, true, true, false, false, false, false, false, false] rfl rfl (any_of HT_.out (by kernel_rfl)) (fun _ _ _ h => h) (Or.inl ⟨by rfl, ?_⟩) ?_ ?_
            rotate_left
            ·intro w'
             go_simp
             with_reducible rfl
            rotate_left
            ·simp only [Act.put, zB, zC, zD, i64_w, i32_w]
             rfl
            refine pure_ (i := 4) (N := some 39) (v := ?_) (a' := ?_) #[true, false, true, true, true, false, false, false, false, false] rfl rfl (any_of HT_.out (by kernel_rfl)) (fun _ _ _ h => h) (Or.inl ⟨by rfl, ?_⟩) ?_ ?_
            rotate_left
            ·intro w'
             go_simp
             with_reducible rfl
            rotate_left
            ·simp only [Act.put, zB, zC, zD, i64_w, i32_w]
             rfl
            refine take_ (i := 1) (N := some 36) (v := ?_) (a' := ?_) #[true, true, true, true, true, false, false, false, false, false] rfl rfl (take_ofW HT_.out HW_.out (by kernel_rfl)) (fun _ _ _ h => h) (Or.inl ⟨by rfl, ?_⟩) hHeld ?_ ?_
            rotate_left
            ·rintro w' ⟨s0, s1, s2, s3, s4, s5, s6⟩
             go_simp
             with_reducible rfl
            rotate_left
            ·simp only [Act.put, zB, zC, zD, i64_w, i32_w]
             rfl
            refine take_ (i := 5) (N := some 40) (v := ?_) (a' := ?_) #[true, true, true, true, true, true, false, false, false, false] rfl rfl (take_ofW HT_.out HW_.out (by kernel_rfl)) (fun _ _ _ h => h) (Or.inl ⟨by rfl, ?_⟩) hHeld ?_ ?_
            rotate_left
            ·rintro w' ⟨s0, s1, s2, s3, s4, s5, s6⟩
             go_simp
             with_reducible rfl
            rotate_left
            ·simp only [Act.put, zB, zC, zD, i64_w, i32_w]
             rfl
            refine pure_ (i := 6) (N := some 41) (v := ?_) (a' := ?_) #[true, true, true, true, true, true, true, false, false, false] rfl rfl (any_of HT_.out (by kernel_rfl)) (fun _ _ _ h => h) (Or.inl ⟨by rfl, ?_⟩) ?_ ?_
            rotate_left
            ·intro w'
             go_simp
             with_reducible rfl
            rotate_left
            ·simp only [Act.put, zB, zC, zD, i64_w, i32_w]
             rfl
            refine take_ (i := 7) (N := some 42) (v := ?_) (a' := ?_) #[true, true, true, true, true, true, true, true, false, false] rfl rfl (take_ofW HT_.out HW_.out (by kernel_rfl)) (fun _ _ _ h => h) (Or.inl ⟨by rfl, ?_⟩) hHeld ?_ ?_
            rotate_left
            ·rintro w' ⟨s0, s1, s2, s3, s4, s5, s6⟩
             go_simp
             with_reducible rfl
            rotate_left
            ·simp only [Act.put, zB, zC, zD, i64_w, i32_w]
             rfl
            refine one_ (i := 8) (N := some 11) #[true, true, true, true, true, true, true, true, true, false] rfl rfl (one_of HT_.out (by kernel_rfl)) (by decide) (fun K hK => ?_)
            refine box_step ?hg (N := 11) ?hd (cs := #[.int .i64 0, .int .i64 0, .int .i64 0, .int .i64 0]) (t := 35) ?hr ?_; (case hd => rfl); (case hg => rfl); (case hr => first | (go_simp; done) | (go_simp; rfl))
            intro gb253 hg w21 hbox hb
            have n0_ := zA (zL (bC_ HO_8) hb)
            have n1_ := zA (zU (g := gb241) (o := .cells #[.int .i64 a0_0, .slice (some ad252) l0_1.length c0_1] 25 (0, 0)) (bA_ BK241) hb)
            have n2_ := zA (below_step (bB_ HB) hb)
            have n3_ := zA (hbox)
            have n4_ := zA ((by rw [hg]; exact (zT (bB_ HB)) : w.heap.size ≤ gb253))
            have n5_ := zA ((by rw [hg]; exact (zT (bB_ HB)) : w.heap.size ≤ gb253))
            have n6_ := zA ((by rw [hg]; exact Nat.ne_of_lt (blk_lt (g := gb241) (o := .cells #[.int .i64 a0_0, .slice (some ad252) l0_1.length c0_1] 25 (0, 0)) (bA_ BK241)) : gb241 ≠ gb253))
            have n7_ := zA ((by rw [hg]; exact Nat.ne_of_gt (blk_lt (g := gb241) (o := .cells #[.int .i64 a0_0, .slice (some ad252) l0_1.length c0_1] 25 (0, 0)) (bA_ BK241)) : gb253 ≠ gb241))
            clear HO_8
            clear BK241
            clear HB
            have HO_8 := n0_
            have BK241 := n1_
            have HB := n2_
            have BK253 := n3_
            have GW253 := n4_
            have GE253 := n5_
            have NB241_253 := n6_
            have NB253_241 := n7_
            clear n0_ n1_ n2_ n3_ n4_ n5_ n6_ n7_
            clear hb hbox hg
            refine hK.out _ _ ⟨(blk_cell BK241.out 0).trans rfl, (blk_cell BK241.out 1).trans rfl, (hb_ HB.out hw251_0), (hb_ HB.out hw252_0), (hb_ HB.out hw252_1), (hb_ HB.out hw252_2), (hb_ HB.out hw252_3)⟩ (fun hHeld => ?_)
            clear hK K
            refine norm_ (a' := ?_) ?_ ?_
            rotate_left
            ·show Act.put _ (some 11) _ = _
             simp only [Act.put, zB, zC, zD, i64_w, i32_w]
             rfl
            refine one_ (i := 9) (N := none) #[true, true, true, true, true, true, true, true, true, true] rfl rfl (one_of HT_.out (by kernel_rfl)) (by decide) (fun K hK => ?_)
            have hs22 : w21.cell? ⟨gb253, 0, none⟩ = some (.int .i64 0) := (blk_cell BK253.out 0).trans rfl
            have hfs22 := blk_frozen BK253.out 0
            have hns22_0 := NB241_253.out
            have hms22_0 := NB253_241.out
            have hs23 : w21.cell? ⟨gb253, 1, none⟩ = some (.int .i64 0) := (blk_cell BK253.out 1).trans rfl
            have hfs23 := blk_frozen BK253.out 1
            have hns23_0 := NB241_253.out
            have hms23_0 := NB253_241.out
            have hs24 : w21.cell? ⟨gb253, 2, none⟩ = some (.int .i64 0) := (blk_cell BK253.out 2).trans rfl
            have hfs24 := blk_frozen BK253.out 2
            have hns24_0 := NB241_253.out
            have hms24_0 := NB253_241.out
            have hs25 : w21.cell? ⟨gb253, 3, none⟩ = some (.int .i64 0) := (blk_cell BK253.out 3).trans rfl
            have hfs25 := blk_frozen BK253.out 3
            have hns25_0 := NB241_253.out
            have hms25_0 := NB253_241.out
            refine skip_ (w1 := ?_) (by rfl) rfl ?_ ?_
            rotate_left
            ·go_simp
             rfl
            refine hK.out _ _ ⟨((cell_far (p := ⟨gb253, _, none⟩) NB241_253.out _).trans (((cell_far (p := ⟨gb253, _, none⟩) NB241_253.out _).trans (((cell_far (p := ⟨gb253, _, none⟩) NB241_253.out _).trans (((cell_far (p := ⟨gb253, _, none⟩) NB241_253.out _).trans (hHeld.1)))))))), ((cell_far (p := ⟨gb253, _, none⟩) NB241_253.out _).trans (((cell_far (p := ⟨gb253, _, none⟩) NB241_253.out _).trans (((cell_far (p := ⟨gb253, _, none⟩) NB241_253.out _).trans (((cell_far (p := ⟨gb253, _, none⟩) NB241_253.out _).trans (hHeld.2.1)))))))), ((cell_far (p := ⟨gb253, _, none⟩) (by first | exact nbA_ hw251_0 GW253.out | exact nbB_ hw251_0 GW253.out | exact nbC_ hw251_0 GW253.out | exact nbD_ hw251_0 GW253.out) _).trans (((cell_far (p := ⟨gb253, _, none⟩) (by first | exact nbA_ hw251_0 GW253.out | exact nbB_ hw251_0 GW253.out | exact nbC_ hw251_0 GW253.out | exact nbD_ hw251_0 GW253.out) _).trans (((cell_far (p := ⟨gb253, _, none⟩) (by first | exact nbA_ hw251_0 GW253.out | exact nbB_ hw251_0 GW253.out | exact nbC_ hw251_0 GW253.out | exact nbD_ hw251_0 GW253.out) _).trans (((cell_far (p := ⟨gb253, _, none⟩) (by first | exact nbA_ hw251_0 GW253.out | exact nbB_ hw251_0 GW253.out | exact nbC_ hw251_0 GW253.out | exact nbD_ hw251_0 GW253.out) _).trans (hHeld.2.2.1)))))))), ((cell_far (p := ⟨gb253, _, none⟩) (by first | exact nbA_ hw252_0 GW253.out | exact nbB_ hw252_0 GW253.out | exact nbC_ hw252_0 GW253.out | exact nbD_ hw252_0 GW253.out) _).trans (((cell_far (p := ⟨gb253, _, none⟩) (by first | exact nbA_ hw252_0 GW253.out | exact nbB_ hw252_0 GW253.out | exact nbC_ hw252_0 GW253.out | exact nbD_ hw252_0 GW253.out) _).trans (((cell_far (p := ⟨gb253, _, none⟩) (by first | exact nbA_ hw252_0 GW253.out | exact nbB_ hw252_0 GW253.out | exact nbC_ hw252_0 GW253.out | exact nbD_ hw252_0 GW253.out) _).trans (((cell_far (p := ⟨gb253, _, none⟩) (by first | exact nbA_ hw252_0 GW253.out | exact nbB_ hw252_0 GW253.out | exact nbC_ hw252_0 GW253.out | exact nbD_ hw252_0 GW253.out) _).trans (hHeld.2.2.2.1)))))))), ((cell_far (p := ⟨gb253, _, none⟩) (by first | exact nbA_ hw252_1 GW253.out | exact nbB_ hw252_1 GW253.out | exact nbC_ hw252_1 GW253.out | exact nbD_ hw252_1 GW253.out) _).trans (((cell_far (p := ⟨gb253, _, none⟩) (by first | exact nbA_ hw252_1 GW253.out | exact nbB_ hw252_1 GW253.out | exact nbC_ hw252_1 GW253.out | exact nbD_ hw252_1 GW253.out) _).trans (((cell_far (p := ⟨gb253, _, none⟩) (by first | exact nbA_ hw252_1 GW253.out | exact nbB_ hw252_1 GW253.out | exact nbC_ hw252_1 GW253.out | exact nbD_ hw252_1 GW253.out) _).trans (((cell_far (p := ⟨gb253, _, none⟩) (by first | exact nbA_ hw252_1 GW253.out | exact nbB_ hw252_1 GW253.out | exact nbC_ hw252_1 GW253.out | exact nbD_ hw252_1 GW253.out) _).trans (hHeld.2.2.2.2.1)))))))), ((cell_far (p := ⟨gb253, _, none⟩) (by first | exact nbA_ hw252_2 GW253.out | exact nbB_ hw252_2 GW253.out | exact nbC_ hw252_2 GW253.out | exact nbD_ hw252_2 GW253.out) _).trans (((cell_far (p := ⟨gb253, _, none⟩) (by first | exact nbA_ hw252_2 GW253.out | exact nbB_ hw252_2 GW253.out | exact nbC_ hw252_2 GW253.out | exact nbD_ hw252_2 GW253.out) _).trans (((cell_far (p := ⟨gb253, _, none⟩) (by first | exact nbA_ hw252_2 GW253.out | exact nbB_ hw252_2 GW253.out | exact nbC_ hw252_2 GW253.out | exact nbD_ hw252_2 GW253.out) _).trans (((cell_far (p := ⟨gb253, _, none⟩) (by first | exact nbA_ hw252_2 GW253.out | exact nbB_ hw252_2 GW253.out | exact nbC_ hw252_2 GW253.out | exact nbD_ hw252_2 GW253.out) _).trans (hHeld.2.2.2.2.2.1)))))))), ((cell_far (p := ⟨gb253, _, none⟩) (by first | exact nbA_ hw252_3 GW253.out | exact nbB_ hw252_3 GW253.out | exact nbC_ hw252_3 GW253.out | exact nbD_ hw252_3 GW253.out) _).trans (((cell_far (p := ⟨gb253, _, none⟩) (by first | exact nbA_ hw252_3 GW253.out | exact nbB_ hw252_3 GW253.out | exact nbC_ hw252_3 GW253.out | exact nbD_ hw252_3 GW253.out) _).trans (((cell_far (p := ⟨gb253, _, none⟩) (by first | exact nbA_ hw252_3 GW253.out | exact nbB_ hw252_3 GW253.out | exact nbC_ hw252_3 GW253.out | exact nbD_ hw252_3 GW253.out) _).trans (((cell_far (p := ⟨gb253, _, none⟩) (by first | exact nbA_ hw252_3 GW253.out | exact nbB_ hw252_3 GW253.out | exact nbC_ hw252_3 GW253.out | exact nbD_ hw252_3 GW253.out) _).trans (hHeld.2.2.2.2.2.2))))))))⟩ (fun hHeld => ?_)
            clear hK K
            refine done_ (done_of HT_.out (by kernel_rfl)) ?_
            have hnb26 := NB253_241.out
            have hnc26 := NB241_253.out
            have hcz27_0 : w21.cell? ⟨gb253, 0, none⟩ = some (.int .i64 0) := (blk_cell BK253.out 0).trans rfl
            have hcz27_1 : w21.cell? ⟨gb253, 1, none⟩ = some (.int .i64 0) := (blk_cell BK253.out 1).trans rfl
            have hcz27_2 : w21.cell? ⟨gb253, 2, none⟩ = some (.int .i64 0) := (blk_cell BK253.out 2).trans rfl
            have hcz27_3 : w21.cell? ⟨gb253, 3, none⟩ = some (.int .i64 0) := (blk_cell BK253.out 3).trans rfl
            have hfz27_0 := blk_frozen BK253.out 0
            have hfz27_1 := blk_frozen BK253.out 1
            have hfz27_2 := blk_frozen BK253.out 2
            have hfz27_3 := blk_frozen BK253.out 3
            try go_wp2_with (first | ((with_reducible refine gate_dst (N := 63) rfl ?_); refine Kd.R_lit k92 _ 92 ?hg (N := 63) ?hd (xs := ([(⟨a0_0, (rd_T35 l0_1 (rd l1 x10_2)).f1, (rd_T35 l0_1 (rd l1 x10_2)).f3⟩ : S92), (⟨(rd_T35 l0_1 (rd l1 x10_2)).f1, a0_0, wrap64 (-((rd_T35 l0_1 (rd l1 x10_2)).f3))⟩ : S92)] : List (S92))) (inner := [.int .i64 a0_0, .int .i64 ((rd_T35 l0_1 (rd l1 x10_2)).f1), .int .i64 ((rd_T35 l0_1 (rd l1 x10_2)).f3), .int .i64 ((rd_T35 l0_1 (rd l1 x10_2)).f1), .int .i64 a0_0, .int .i64 (wrap64 (-((rd_T35 l0_1 (rd l1 x10_2)).f3)))]) (ok := fun _ => True) (okp := fun _ => True) ?hr ?hp (fun _ hk => hk) trivial (Below.refl _ _) (Nat.le_refl _) (by simp) ?_; (case hd => rfl); (case hg => rfl); (case hr => first | (go_simp; done) | (go_simp; rfl)); (case hp => exact (Reps.c3 (show Kd.M k92 _ _ _ (⟨a0_0, (rd_T35 l0_1 (rd l1 x10_2)).f1, (rd_T35 l0_1 (rd l1 x10_2)).f3⟩ : S92) [.int .i64 a0_0, .int .i64 ((rd_T35 l0_1 (rd l1 x10_2)).f1), .int .i64 ((rd_T35 l0_1 (rd l1 x10_2)).f3)] from (k92_mkM _ _ _ (⟨a0_0, (rd_T35 l0_1 (rd l1 x10_2)).f1, (rd_T35 l0_1 (rd l1 x10_2)).f3⟩ : S92) )) (Reps.c3 (show Kd.M k92 _ _ _ (⟨(rd_T35 l0_1 (rd l1 x10_2)).f1, a0_0, wrap64 (-((rd_T35 l0_1 (rd l1 x10_2)).f3))⟩ : S92) [.int .i64 ((rd_T35 l0_1 (rd l1 x10_2)).f1), .int .i64 a0_0, .int .i64 (wrap64 (-((rd_T35 l0_1 (rd l1 x10_2)).f3)))] from (k92_mkM _ _ _ (⟨(rd_T35 l0_1 (rd l1 x10_2)).f1, a0_0, wrap64 (-((rd_T35 l0_1 (rd l1 x10_2)).f3))⟩ : S92) )) (Reps.none _ _)))); intro v255 w28 ho29 hb hg_ hnew_; clear hg_ hnew_; (first | rw [← Ny254.out] at ho29 | (simp only [Int.reduceToNat] at ho29; rw [← Ny254.out] at ho29)); have n0_ := zA (Kd.R_elder' (by (with_reducible repeat (first | apply zF | apply zE | apply zG)); exact (Kd.R_mono (Kd.R_far (p := ⟨gb253, 3, none⟩) (Kd.R_far (p := ⟨gb253, 2, none⟩) (Kd.R_far (p := ⟨gb253, 1, none⟩) (Kd.R_far (p := ⟨gb253, 0, none⟩) (Kd.R_types HO_8.out BK253.out (by decide)) (fun _ hk => hk.2) (.int .i64 ((rd_T35 l0_1 (rd l1 x10_2)).f0))) (fun _ hk => hk.2) (.int .i64 ((rd_T35 l0_1 (rd l1 x10_2)).f1))) (fun _ hk => hk.2) (.int .i64 ((rd_T35 l0_1 (rd l1 x10_2)).f2))) (fun _ hk => hk.2) (.int .i64 ((rd_T35 l0_1 (rd l1 x10_2)).f3))) (fun _ h_ => h_.1))) (Kd.R_base ho29) hb); have n1_ := zA (Kd.R_lower (Kd.R_new' ho29 (Kd.R_lt (by (with_reducible repeat (first | apply zF | apply zE | apply zG)); exact (Kd.R_mono (Kd.R_far (p := ⟨gb253, 3, none⟩) (Kd.R_far (p := ⟨gb253, 2, none⟩) (Kd.R_far (p := ⟨gb253, 1, none⟩) (Kd.R_far (p := ⟨gb253, 0, none⟩) (Kd.R_types HO_8.out BK253.out (by decide)) (fun _ hk => hk.2) (.int .i64 ((rd_T35 l0_1 (rd l1 x10_2)).f0))) (fun _ hk => hk.2) (.int .i64 ((rd_T35 l0_1 (rd l1 x10_2)).f1))) (fun _ hk => hk.2) (.int .i64 ((rd_T35 l0_1 (rd l1 x10_2)).f2))) (fun _ hk => hk.2) (.int .i64 ((rd_T35 l0_1 (rd l1 x10_2)).f3))) (fun _ h_ => h_.1))))) (zT (bB_ HB))); have n2_ := zA (zU (g := gb241) (o := .cells #[.int .i64 a0_0, .slice (some ad252) l0_1.length c0_1] 25 (0, 0)) (bD_ BK241) hb); have n3_ := zA (zU (g := gb253) (o := .cells #[.int .i64 ((rd_T35 l0_1 (rd l1 x10_2)).f0), .int .i64 ((rd_T35 l0_1 (rd l1 x10_2)).f1), .int .i64 ((rd_T35 l0_1 (rd l1 x10_2)).f2), .int .i64 ((rd_T35 l0_1 (rd l1 x10_2)).f3)] 35 (0, 0)) (by (with_reducible repeat (first | refine zM ?_ _ | refine zN ?_ | refine zO ?_ _)); refine blk_put (cs := #[.int .i64 ((rd_T35 l0_1 (rd l1 x10_2)).f0), .int .i64 ((rd_T35 l0_1 (rd l1 x10_2)).f1), .int .i64 ((rd_T35 l0_1 (rd l1 x10_2)).f2), .int .i64 0]) ?_ 3 _ rfl; (with_reducible repeat (first | refine zM ?_ _ | refine zN ?_ | refine zO ?_ _)); refine blk_put (cs := #[.int .i64 ((rd_T35 l0_1 (rd l1 x10_2)).f0), .int .i64 ((rd_T35 l0_1 (rd l1 x10_2)).f1), .int .i64 0, .int .i64 0]) ?_ 2 _ rfl; (with_reducible repeat (first | refine zM ?_ _ | refine zN ?_ | refine zO ?_ _)); refine blk_put (cs := #[.int .i64 ((rd_T35 l0_1 (rd l1 x10_2)).f0), .int .i64 0, .int .i64 0, .int .i64 0]) ?_ 1 _ rfl; (with_reducible repeat (first | refine zM ?_ _ | refine zN ?_ | refine zO ?_ _)); refine blk_put (cs := #[.int .i64 0, .int .i64 0, .int .i64 0, .int .i64 0]) ?_ 0 _ rfl; (with_reducible repeat (first | refine zM ?_ _ | refine zN ?_ | refine zO ?_ _)); exact BK253.out) hb); have n4_ := zA (below_step (bB_ HB) hb); clear HO_8; clear BK241; clear BK253; clear HB; have HO_8 := n0_; have HO256 := n1_; have BK241 := n2_; have BK253 := n3_; have HB := n4_; clear n0_ n1_ n2_ n3_ n4_; clear hb ho29; obtain ⟨Ao31, co31, eo31⟩ := Kd.R_slice HO256.out; subst eo31) | ((with_reducible refine gate_builtin (b := .append) (xs := #[.tmp 49, .tmp 63]) rfl ?_); at_builtin; refine Kd.R_append_rows k92 (w0 := w) w.heap.size rfl (.tmp 49) (.tmp 63) 89 92 (.agg #[(.int .i64 0), (.int .i64 0), (.int .i64 0)]) 24 rfl Try.underlying89 info92 rfl (by decide) (by omega) u8 x8_2 y254 _ _ _ (fun k_ => some k_ ≠ (.slice Ao31 y254.length co31 : Value).ownBlock) (fun _ => False) rfl rfl ?aO ?aR (fun _ _ h => h) (fun _ h => h.elim) ?aF ?aB ?aS ?aL ?_; (case aR => repeat (first | exact (zK HO256.out).2.2 | (with_reducible refine zI ?_ _) | (with_reducible refine zH ?_ _) | (with_reducible refine zJ ?_))); (case aB => exact (bB_ HB)); (case aF => exact (fun k_ hk => Kd.fresh' (Kd.R_lt (bC_ HO256)) k_ hk)); (case aO => exact (by (with_reducible repeat (first | apply zF | apply zE | apply zG)); exact Kd.R_mono HO_8.out (fun _ hk => hk.2))); (case aS => exact (zT (bB_ HB))); (case aL => have := LMc19.out; omega); intro v258 w30 ho hb hg hat; rw [← Ny257.out] at ho; have n0_ := zA (blk_grown (g := gb241) (o := .cells #[.int .i64 a0_0, .slice (some ad252) l0_1.length c0_1] 25 (0, 0)) (bA_ BK241) hg (Kd.R_ne HO_8.out BK241.out (by decide))); have n1_ := zA (blk_grown (g := gb253) (o := .cells #[.int .i64 ((rd_T35 l0_1 (rd l1 x10_2)).f0), .int .i64 ((rd_T35 l0_1 (rd l1 x10_2)).f1), .int .i64 ((rd_T35 l0_1 (rd l1 x10_2)).f2), .int .i64 ((rd_T35 l0_1 (rd l1 x10_2)).f3)] 35 (0, 0)) (bA_ BK253) hg (Kd.R_ne HO_8.out BK253.out (by decide))); have n2_ := zA (Kd.R_after (ok := (fun _ => True)) (bC_ HO256) hg hat); have n3_ := zA (hb); have n4_ := zA (ho); clear BK241; clear BK253; clear HO256; clear HB; clear HO_8; have BK241 := n0_; have BK253 := n1_; have HO256 := n2_; have HB := n3_; have HO259 := n4_; clear n0_ n1_ n2_ n3_ n4_; clear ho hb hg hat))
            go_roundg k2
            case measure => have := HK1.out; have := HK2.out; omega
            case rel => exact ⟨(y257), (wrap64 (x10_2 + 1)), (by first | rfl | (simp; done) | (simp [*]; done)), H', ⟨by have := HK1.out; have := HK2.out; omega⟩, ⟨by (with_reducible repeat (first | apply zF | apply zE | apply zG)); exact Kd.R_mono HO259.out (fun _ hk => trivial)⟩, ⟨bA_ BK241⟩, ⟨bB_ HB⟩⟩
           ·rw [if_neg c19] at H
            exact absurd H (by simp)
          ·rw [if_neg c18] at H
           have c18b0 : (((rd_T35 l0_1 (rd l1 x10_2)).f0) == (wrap64 (1 + a2))) = false := beq_eq_false_iff_ne.mpr c18
           have c18b1 : (((rd_T35 l0_1 (rd l1 x10_2)).f0) != (wrap64 (1 + a2))) = true := bne_iff_ne.mpr c18
           by_cases c32 : ((rd_T35 l0_1 (rd l1 x10_2)).f0) = (wrap64 (3 + a2))
           ·rw [if_pos c32] at H
            have c32b0 : (((rd_T35 l0_1 (rd l1 x10_2)).f0) == (wrap64 (3 + a2))) = true := beq_iff_eq.mpr c32
            have c32b1 : (((rd_T35 l0_1 (rd l1 x10_2)).f0) != (wrap64 (3 + a2))) = false := bne_eq_false_iff_eq.mpr c32
            clear c32
            obtain ⟨y260, hy260⟩ : ∃ y_ : List (S92), y_ = (([(⟨(rd_T35 l0_1 (rd l1 x10_2)).f1, (rd_T35 l0_1 (rd l1 x10_2)).f2, (rd_T35 l0_1 (rd l1 x10_2)).f3⟩ : S92), (⟨(rd_T35 l0_1 (rd l1 x10_2)).f2, (rd_T35 l0_1 (rd l1 x10_2)).f1, wrap64 (-((rd_T35 l0_1 (rd l1 x10_2)).f3))⟩ : S92)] : List (S92))) := ⟨_, rfl⟩
            replace H : (if x8_2.length + y260.length < 5864062014805 then (spec_l04Steps.l1 k2 l1 a2 a0_0 (x8_2 ++ y260) (wrap64 (x10_2 + 1)) a0_0 l0_1) else (none)) = some r := by first | (rw [hy260]; with_reducible exact H) | (have H2_ := (Option.bind_some _ _).symm.trans H; rw [hy260]; with_reducible exact H2_) | (have H2_ := (Option.bind_some _ _).symm.trans H; with_reducible exact H2_) | with_reducible exact H | (rw [hy260]; exact H) | exact H
            have Ny260 := zA hy260
            clear hy260
            by_cases c33 : x8_2.length + y260.length < 5864062014805
            ·rw [if_pos c33] at H
             have LMc33 := zA c33
             clear c33
             obtain ⟨y263, hy263⟩ : ∃ y_ : List (S92), y_ = (x8_2 ++ y260) := ⟨_, rfl⟩
             replace H : (spec_l04Steps.l1 k2 l1 a2 a0_0 y263 (wrap64 (x10_2 + 1)) a0_0 l0_1) = some r := by first | (rw [hy263]; with_reducible exact H) | (have H2_ := (Option.bind_some _ _).symm.trans H; rw [hy263]; with_reducible exact H2_) | (have H2_ := (Option.bind_some _ _).symm.trans H; with_reducible exact H2_) | with_reducible exact H | (rw [hy263]; exact H) | exact H
             have Ny263 := zA hy263
             clear hy263
             have H' := zA H
             clear H
             try go_wp2
             have n0_ := zA (zG HO_8.out)
             have n1_ := zA (zN BK241.out)
             have n2_ := zA (zQ HB.out)
             clear HO_8
             clear BK241
             clear HB
             have HO_8 := n0_
             have BK241 := n1_
             have HB := n2_
             clear n0_ n1_ n2_
             have p251 : 0 ≤ (x10_2 : Int) := of_decide_eq_true (by first | (with_reducible assumption) | assumption)
             have q251 : x10_2 < (l1.length : Int) := of_decide_eq_true (by first | (with_reducible assumption) | assumption)
             obtain ⟨ad251, e251, hx251_0⟩ := Kd.at_int HR1.out x10_2 p251 q251
             have hw251_0 := hx251_0
             cases e251
             replace hx251_0 := hb_ HB.out hx251_0
             replace p251 := eq_true p251
             replace q251 := eq_true q251
             have p252 : 0 ≤ ((rd l1 x10_2) : Int) := of_decide_eq_true (by first | (with_reducible assumption) | assumption)
             have q252 : (rd l1 x10_2) < (l0_1.length : Int) := of_decide_eq_true (by first | (with_reducible assumption) | assumption)
             obtain ⟨ad252, e252, hx252_0, hx252_1, hx252_2, hx252_3⟩ := at_T35 HR0_1.out (rd l1 x10_2) p252 q252
             have hw252_3 := hx252_3
             have hw252_2 := hx252_2
             have hw252_1 := hx252_1
             have hw252_0 := hx252_0
             cases e252
             replace hx252_0 := hb_ HB.out hx252_0
             replace hx252_1 := hb_ HB.out hx252_1
             replace hx252_2 := hb_ HB.out hx252_2
             replace hx252_3 := hb_ HB.out hx252_3
             replace p252 := eq_true p252
             replace q252 := eq_true q252
             refine start_ (n := 10) (S := fun w' => w'.cell? ⟨gb241, 0, none⟩ = some (.int .i64 a0_0) ∧ w'.cell? ⟨gb241, 1, none⟩ = some (.slice (some ad252) l0_1.length c0_1) ∧ w'.cell? (ad251.add (x10_2).toNat) = some (.int .i64 (rd l1 x10_2)) ∧ w'.cell? (ad252.add (((rd l1 x10_2)).toNat * 4)) = some (.int .i64 ((rd_T35 l0_1 (rd l1 x10_2)).f0)) ∧ w'.cell? ⟨(ad252.add (((rd l1 x10_2)).toNat * 4)).block, (ad252.add (((rd l1 x10_2)).toNat * 4)).off + 1, none⟩ = some (.int .i64 ((rd_T35 l0_1 (rd l1 x10_2)).f1)) ∧ w'.cell? ⟨(ad252.add (((rd l1 x10_2)).toNat * 4)).block, (ad252.add (((rd l1 x10_2)).toNat * 4)).off + 2, none⟩ = some (.int .i64 ((rd_T35 l0_1 (rd l1 x10_2)).f2)) ∧ w'.cell? ⟨(ad252.add (((rd l1 x10_2)).toNat * 4)).block, (ad252.add (((rd l1 x10_2)).toNat * 4)).off + 3, none⟩ = some (.int .i64 ((rd_T35 l0_1 (rd l1 x10_2)).f3))) (ds := []) #[false, false, false, false, false, false, false, false, false, false] (by kernel_rfl) rfl rfl ⟨(blk_cell BK241.out 0).trans rfl, (blk_cell BK241.out 1).trans rfl, (hb_ HB.out hw251_0), (hb_ HB.out hw252_0), (hb_ HB.out hw252_1), (hb_ HB.out hw252_2), (hb_ HB.out hw252_3)⟩ (fun hHeld => ?_); refine with_tabW spec_l04Steps.tab10 spec_l04Steps.bits10 (fun HT_ HW_ => ?_)
             generalize wr.drew = w34 at HO_8 BK241 HB hx251_0 hx252_0 hx252_1 hx252_2 hx252_3 hHeld ⊢
             refine pure_ (i := 0) (N := some 35) (v := ?_) (a' := ?_) #[true, false, false, false, false, false, false, false, false, false] rfl rfl (any_of HT_.out (by kernel_rfl)) (fun _ _ _ h => h) (Or.inl ⟨by rfl, ?_⟩) ?_ ?_
             rotate_left
             ·intro w'
              go_simp
              with_reducible rfl
             rotate_left
             ·simp only [Act.put, zB, zC, zD, i64_w, i32_w]
              rfl
             refine pure_ (i := 2) (N := some 37) (v := ?_) (a' := ?_) #[true, false, true, false, false, false, false, false, false, false] rfl rfl (any_of HT_.out (by kernel_rfl)) (fun _ _ _ h => h) (Or.inl ⟨by rfl, ?_⟩) ?_ ?_
             rotate_left
             ·intro w'
              go_simp
              with_reducible rfl
             rotate_left
             ·simp only [Act.put, zB, zC, zD, i64_w, i32_w]
              rfl
             refine pure_ (i := 3) (N := some 38) (v := ?_) (a' := ?_) #[true, false, true, true, false, false, false, false, false, false] rfl rfl (any_of HT_.out (by kernel_rfl)) (fun _ _ _ h => h) (Or.inl ⟨by rfl, ?_⟩) ?_ ?_
             rotate_left
             ·intro w'
              go_simp
              with_reducible rfl
             rotate_left
             ·simp only [Act.put, zB, zC, zD, i64_w, i32_w]
              rfl
             refine pure_ (i := 4) (N := some 39) (v := ?_) (a' := ?_) #[true, false, true, true, true, false, false, false, false, false] rfl rfl (any_of HT_.out (by kernel_rfl)) (fun _ _ _ h => h) (Or.inl ⟨by rfl, ?_⟩) ?_ ?_
             rotate_left
             ·intro w'
              go_simp
              with_reducible rfl
             rotate_left
             ·simp only [Act.put, zB, zC, zD, i64_w, i32_w]
              rfl
             refine take_ (i := 1) (N := some 36) (v := ?_) (a' := ?_) #[true, true, true, true, true, false, false, false, false, false] rfl rfl (take_ofW HT_.out HW_.out (by kernel_rfl)) (fun _ _ _ h => h) (Or.inl ⟨by rfl, ?_⟩) hHeld ?_ ?_
             rotate_left
             ·rintro w' ⟨s0, s1, s2, s3, s4, s5, s6⟩
              go_simp
              with_reducible rfl
             rotate_left
             ·simp only [Act.put, zB, zC, zD, i64_w, i32_w]
              rfl
             refine take_ (i := 5) (N := some 40) (v := ?_) (a' := ?_) #[true, true, true, true, true, true, false, false, false, false] rfl rfl (take_ofW HT_.out HW_.out (by kernel_rfl)) (fun _ _ _ h => h) (Or.inl ⟨by rfl, ?_⟩) hHeld ?_ ?_
             rotate_left
             ·rintro w' ⟨s0, s1, s2, s3, s4, s5, s6⟩
              go_simp
              with_reducible rfl
             rotate_left
             ·simp only [Act.put, zB, zC, zD, i64_w, i32_w]
              rfl
             refine pure_ (i := 6) (N := some 41) (v := ?_) (a' := ?_) #[true, true, true, true, true, true, true, false, false, false] rfl rfl (any_of HT_.out (by kernel_rfl)) (fun _ _ _ h => h) (Or.inl ⟨by rfl, ?_⟩) ?_ ?_
             rotate_left
             ·intro w'
              go_simp
              with_reducible rfl
             rotate_left
             ·simp only [Act.put, zB, zC, zD, i64_w, i32_w]
              rfl
             refine take_ (i := 7) (N := some 42) (v := ?_) (a' := ?_) #[true, true, true, true, true, true, true, true, false, false] rfl rfl (take_ofW HT_.out HW_.out (by kernel_rfl)) (fun _ _ _ h => h) (Or.inl ⟨by rfl, ?_⟩) hHeld ?_ ?_
             rotate_left
             ·rintro w' ⟨s0, s1, s2, s3, s4, s5, s6⟩
              go_simp
              with_reducible rfl
             rotate_left
             ·simp only [Act.put, zB, zC, zD, i64_w, i32_w]
              rfl
             refine one_ (i := 8) (N := some 11) #[true, true, true, true, true, true, true, true, true, false] rfl rfl (one_of HT_.out (by kernel_rfl)) (by decide) (fun K hK => ?_)
             refine box_step ?hg (N := 11) ?hd (cs := #[.int .i64 0, .int .i64 0, .int .i64 0, .int .i64 0]) (t := 35) ?hr ?_; (case hd => rfl); (case hg => rfl); (case hr => first | (go_simp; done) | (go_simp; rfl))
             intro gb253 hg w35 hbox hb
             have n0_ := zA (zL (bC_ HO_8) hb)
             have n1_ := zA (zU (g := gb241) (o := .cells #[.int .i64 a0_0, .slice (some ad252) l0_1.length c0_1] 25 (0, 0)) (bA_ BK241) hb)
             have n2_ := zA (below_step (bB_ HB) hb)
             have n3_ := zA (hbox)
             have n4_ := zA ((by rw [hg]; exact (zT (bB_ HB)) : w.heap.size ≤ gb253))
             have n5_ := zA ((by rw [hg]; exact (zT (bB_ HB)) : w.heap.size ≤ gb253))
             have n6_ := zA ((by rw [hg]; exact Nat.ne_of_lt (blk_lt (g := gb241) (o := .cells #[.int .i64 a0_0, .slice (some ad252) l0_1.length c0_1] 25 (0, 0)) (bA_ BK241)) : gb241 ≠ gb253))
             have n7_ := zA ((by rw [hg]; exact Nat.ne_of_gt (blk_lt (g := gb241) (o := .cells #[.int .i64 a0_0, .slice (some ad252) l0_1.length c0_1] 25 (0, 0)) (bA_ BK241)) : gb253 ≠ gb241))
             clear HO_8
             clear BK241
             clear HB
             have HO_8 := n0_
             have BK241 := n1_
             have HB := n2_
             have BK253 := n3_
             have GW253 := n4_
             have GE253 := n5_
             have NB241_253 := n6_
             have NB253_241 := n7_
             clear n0_ n1_ n2_ n3_ n4_ n5_ n6_ n7_
             clear hb hbox hg
             refine hK.out _ _ ⟨(blk_cell BK241.out 0).trans rfl, (blk_cell BK241.out 1).trans rfl, (hb_ HB.out hw251_0), (hb_ HB.out hw252_0), (hb_ HB.out hw252_1), (hb_ HB.out hw252_2), (hb_ HB.out hw252_3)⟩ (fun hHeld => ?_)
             clear hK K
             refine norm_ (a' := ?_) ?_ ?_
             rotate_left
             ·show Act.put _ (some 11) _ = _
              simp only [Act.put, zB, zC, zD, i64_w, i32_w]
              rfl
             refine one_ (i := 9) (N := none) #[true, true, true, true, true, true, true, true, true, true] rfl rfl (one_of HT_.out (by kernel_rfl)) (by decide) (fun K hK => ?_)
             have hs36 : w35.cell? ⟨gb253, 0, none⟩ = some (.int .i64 0) := (blk_cell BK253.out 0).trans rfl
             have hfs36 := blk_frozen BK253.out 0
             have hns36_0 := NB241_253.out
             have hms36_0 := NB253_241.out
             have hs37 : w35.cell? ⟨gb253, 1, none⟩ = some (.int .i64 0) := (blk_cell BK253.out 1).trans rfl
             have hfs37 := blk_frozen BK253.out 1
             have hns37_0 := NB241_253.out
             have hms37_0 := NB253_241.out
             have hs38 : w35.cell? ⟨gb253, 2, none⟩ = some (.int .i64 0) := (blk_cell BK253.out 2).trans rfl
             have hfs38 := blk_frozen BK253.out 2
             have hns38_0 := NB241_253.out
             have hms38_0 := NB253_241.out
             have hs39 : w35.cell? ⟨gb253, 3, none⟩ = some (.int .i64 0) := (blk_cell BK253.out 3).trans rfl
             have hfs39 := blk_frozen BK253.out 3
             have hns39_0 := NB241_253.out
             have hms39_0 := NB253_241.out
             refine skip_ (w1 := ?_) (by rfl) rfl ?_ ?_
             rotate_left
             ·go_simp
              rfl
             refine hK.out _ _ ⟨((cell_far (p := ⟨gb253, _, none⟩) NB241_253.out _).trans (((cell_far (p := ⟨gb253, _, none⟩) NB241_253.out _).trans (((cell_far (p := ⟨gb253, _, none⟩) NB241_253.out _).trans (((cell_far (p := ⟨gb253, _, none⟩) NB241_253.out _).trans (hHeld.1)))))))), ((cell_far (p := ⟨gb253, _, none⟩) NB241_253.out _).trans (((cell_far (p := ⟨gb253, _, none⟩) NB241_253.out _).trans (((cell_far (p := ⟨gb253, _, none⟩) NB241_253.out _).trans (((cell_far (p := ⟨gb253, _, none⟩) NB241_253.out _).trans (hHeld.2.1)))))))), ((cell_far (p := ⟨gb253, _, none⟩) (by first | exact nbA_ hw251_0 GW253.out | exact nbB_ hw251_0 GW253.out | exact nbC_ hw251_0 GW253.out | exact nbD_ hw251_0 GW253.out) _).trans (((cell_far (p := ⟨gb253, _, none⟩) (by first | exact nbA_ hw251_0 GW253.out | exact nbB_ hw251_0 GW253.out | exact nbC_ hw251_0 GW253.out | exact nbD_ hw251_0 GW253.out) _).trans (((cell_far (p := ⟨gb253, _, none⟩) (by first | exact nbA_ hw251_0 GW253.out | exact nbB_ hw251_0 GW253.out | exact nbC_ hw251_0 GW253.out | exact nbD_ hw251_0 GW253.out) _).trans (((cell_far (p := ⟨gb253, _, none⟩) (by first | exact nbA_ hw251_0 GW253.out | exact nbB_ hw251_0 GW253.out | exact nbC_ hw251_0 GW253.out | exact nbD_ hw251_0 GW253.out) _).trans (hHeld.2.2.1)))))))), ((cell_far (p := ⟨gb253, _, none⟩) (by first | exact nbA_ hw252_0 GW253.out | exact nbB_ hw252_0 GW253.out | exact nbC_ hw252_0 GW253.out | exact nbD_ hw252_0 GW253.out) _).trans (((cell_far (p := ⟨gb253, _, none⟩) (by first | exact nbA_ hw252_0 GW253.out | exact nbB_ hw252_0 GW253.out | exact nbC_ hw252_0 GW253.out | exact nbD_ hw252_0 GW253.out) _).trans (((cell_far (p := ⟨gb253, _, none⟩) (by first | exact nbA_ hw252_0 GW253.out | exact nbB_ hw252_0 GW253.out | exact nbC_ hw252_0 GW253.out | exact nbD_ hw252_0 GW253.out) _).trans (((cell_far (p := ⟨gb253, _, none⟩) (by first | exact nbA_ hw252_0 GW253.out | exact nbB_ hw252_0 GW253.out | exact nbC_ hw252_0 GW253.out | exact nbD_ hw252_0 GW253.out) _).trans (hHeld.2.2.2.1)))))))), ((cell_far (p := ⟨gb253, _, none⟩) (by first | exact nbA_ hw252_1 GW253.out | exact nbB_ hw252_1 GW253.out | exact nbC_ hw252_1 GW253.out | exact nbD_ hw252_1 GW253.out) _).trans (((cell_far (p := ⟨gb253, _, none⟩) (by first | exact nbA_ hw252_1 GW253.out | exact nbB_ hw252_1 GW253.out | exact nbC_ hw252_1 GW253.out | exact nbD_ hw252_1 GW253.out) _).trans (((cell_far (p := ⟨gb253, _, none⟩) (by first | exact nbA_ hw252_1 GW253.out | exact nbB_ hw252_1 GW253.out | exact nbC_ hw252_1 GW253.out | exact nbD_ hw252_1 GW253.out) _).trans (((cell_far (p := ⟨gb253, _, none⟩) (by first | exact nbA_ hw252_1 GW253.out | exact nbB_ hw252_1 GW253.out | exact nbC_ hw252_1 GW253.out | exact nbD_ hw252_1 GW253.out) _).trans (hHeld.2.2.2.2.1)))))))), ((cell_far (p := ⟨gb253, _, none⟩) (by first | exact nbA_ hw252_2 GW253.out | exact nbB_ hw252_2 GW253.out | exact nbC_ hw252_2 GW253.out | exact nbD_ hw252_2 GW253.out) _).trans (((cell_far (p := ⟨gb253, _, none⟩) (by first | exact nbA_ hw252_2 GW253.out | exact nbB_ hw252_2 GW253.out | exact nbC_ hw252_2 GW253.out | exact nbD_ hw252_2 GW253.out) _).trans (((cell_far (p := ⟨gb253, _, none⟩) (by first | exact nbA_ hw252_2 GW253.out | exact nbB_ hw252_2 GW253.out | exact nbC_ hw252_2 GW253.out | exact nbD_ hw252_2 GW253.out) _).trans (((cell_far (p := ⟨gb253, _, none⟩) (by first | exact nbA_ hw252_2 GW253.out | exact nbB_ hw252_2 GW253.out | exact nbC_ hw252_2 GW253.out | exact nbD_ hw252_2 GW253.out) _).trans (hHeld.2.2.2.2.2.1)))))))), ((cell_far (p := ⟨gb253, _, none⟩) (by first | exact nbA_ hw252_3 GW253.out | exact nbB_ hw252_3 GW253.out | exact nbC_ hw252_3 GW253.out | exact nbD_ hw252_3 GW253.out) _).trans (((cell_far (p := ⟨gb253, _, none⟩) (by first | exact nbA_ hw252_3 GW253.out | exact nbB_ hw252_3 GW253.out | exact nbC_ hw252_3 GW253.out | exact nbD_ hw252_3 GW253.out) _).trans (((cell_far (p := ⟨gb253, _, none⟩) (by first | exact nbA_ hw252_3 GW253.out | exact nbB_ hw252_3 GW253.out | exact nbC_ hw252_3 GW253.out | exact nbD_ hw252_3 GW253.out) _).trans (((cell_far (p := ⟨gb253, _, none⟩) (by first | exact nbA_ hw252_3 GW253.out | exact nbB_ hw252_3 GW253.out | exact nbC_ hw252_3 GW253.out | exact nbD_ hw252_3 GW253.out) _).trans (hHeld.2.2.2.2.2.2))))))))⟩ (fun hHeld => ?_)
             clear hK K
             refine done_ (done_of HT_.out (by kernel_rfl)) ?_
             have hnb40 := NB253_241.out
             have hnc40 := NB241_253.out
             have hcz41_0 : w35.cell? ⟨gb253, 0, none⟩ = some (.int .i64 0) := (blk_cell BK253.out 0).trans rfl
             have hcz41_1 : w35.cell? ⟨gb253, 1, none⟩ = some (.int .i64 0) := (blk_cell BK253.out 1).trans rfl
             have hcz41_2 : w35.cell? ⟨gb253, 2, none⟩ = some (.int .i64 0) := (blk_cell BK253.out 2).trans rfl
             have hcz41_3 : w35.cell? ⟨gb253, 3, none⟩ = some (.int .i64 0) := (blk_cell BK253.out 3).trans rfl
             have hfz41_0 := blk_frozen BK253.out 0
             have hfz41_1 := blk_frozen BK253.out 1
             have hfz41_2 := blk_frozen BK253.out 2
             have hfz41_3 := blk_frozen BK253.out 3
             try go_wp2_with (first | ((with_reducible refine gate_dst (N := 85) rfl ?_); refine Kd.R_lit k92 _ 92 ?hg (N := 85) ?hd (xs := ([(⟨(rd_T35 l0_1 (rd l1 x10_2)).f1, (rd_T35 l0_1 (rd l1 x10_2)).f2, (rd_T35 l0_1 (rd l1 x10_2)).f3⟩ : S92), (⟨(rd_T35 l0_1 (rd l1 x10_2)).f2, (rd_T35 l0_1 (rd l1 x10_2)).f1, wrap64 (-((rd_T35 l0_1 (rd l1 x10_2)).f3))⟩ : S92)] : List (S92))) (inner := [.int .i64 ((rd_T35 l0_1 (rd l1 x10_2)).f1), .int .i64 ((rd_T35 l0_1 (rd l1 x10_2)).f2), .int .i64 ((rd_T35 l0_1 (rd l1 x10_2)).f3), .int .i64 ((rd_T35 l0_1 (rd l1 x10_2)).f2), .int .i64 ((rd_T35 l0_1 (rd l1 x10_2)).f1), .int .i64 (wrap64 (-((rd_T35 l0_1 (rd l1 x10_2)).f3)))]) (ok := fun _ => True) (okp := fun _ => True) ?hr ?hp (fun _ hk => hk) trivial (Below.refl _ _) (Nat.le_refl _) (by simp) ?_; (case hd => rfl); (case hg => rfl); (case hr => first | (go_simp; done) | (go_simp; rfl)); (case hp => exact (Reps.c3 (show Kd.M k92 _ _ _ (⟨(rd_T35 l0_1 (rd l1 x10_2)).f1, (rd_T35 l0_1 (rd l1 x10_2)).f2, (rd_T35 l0_1 (rd l1 x10_2)).f3⟩ : S92) [.int .i64 ((rd_T35 l0_1 (rd l1 x10_2)).f1), .int .i64 ((rd_T35 l0_1 (rd l1 x10_2)).f2), .int .i64 ((rd_T35 l0_1 (rd l1 x10_2)).f3)] from (k92_mkM _ _ _ (⟨(rd_T35 l0_1 (rd l1 x10_2)).f1, (rd_T35 l0_1 (rd l1 x10_2)).f2, (rd_T35 l0_1 (rd l1 x10_2)).f3⟩ : S92) )) (Reps.c3 (show Kd.M k92 _ _ _ (⟨(rd_T35 l0_1 (rd l1 x10_2)).f2, (rd_T35 l0_1 (rd l1 x10_2)).f1, wrap64 (-((rd_T35 l0_1 (rd l1 x10_2)).f3))⟩ : S92) [.int .i64 ((rd_T35 l0_1 (rd l1 x10_2)).f2), .int .i64 ((rd_T35 l0_1 (rd l1 x10_2)).f1), .int .i64 (wrap64 (-((rd_T35 l0_1 (rd l1 x10_2)).f3)))] from (k92_mkM _ _ _ (⟨(rd_T35 l0_1 (rd l1 x10_2)).f2, (rd_T35 l0_1 (rd l1 x10_2)).f1, wrap64 (-((rd_T35 l0_1 (rd l1 x10_2)).f3))⟩ : S92) )) (Reps.none _ _)))); intro v261 w42 ho43 hb hg_ hnew_; clear hg_ hnew_; (first | rw [← Ny260.out] at ho43 | (simp only [Int.reduceToNat] at ho43; rw [← Ny260.out] at ho43)); have n0_ := zA (Kd.R_elder' (by (with_reducible repeat (first | apply zF | apply zE | apply zG)); exact (Kd.R_mono (Kd.R_far (p := ⟨gb253, 3, none⟩) (Kd.R_far (p := ⟨gb253, 2, none⟩) (Kd.R_far (p := ⟨gb253, 1, none⟩) (Kd.R_far (p := ⟨gb253, 0, none⟩) (Kd.R_types HO_8.out BK253.out (by decide)) (fun _ hk => hk.2) (.int .i64 ((rd_T35 l0_1 (rd l1 x10_2)).f0))) (fun _ hk => hk.2) (.int .i64 ((rd_T35 l0_1 (rd l1 x10_2)).f1))) (fun _ hk => hk.2) (.int .i64 ((rd_T35 l0_1 (rd l1 x10_2)).f2))) (fun _ hk => hk.2) (.int .i64 ((rd_T35 l0_1 (rd l1 x10_2)).f3))) (fun _ h_ => h_.1))) (Kd.R_base ho43) hb); have n1_ := zA (Kd.R_lower (Kd.R_new' ho43 (Kd.R_lt (by (with_reducible repeat (first | apply zF | apply zE | apply zG)); exact (Kd.R_mono (Kd.R_far (p := ⟨gb253, 3, none⟩) (Kd.R_far (p := ⟨gb253, 2, none⟩) (Kd.R_far (p := ⟨gb253, 1, none⟩) (Kd.R_far (p := ⟨gb253, 0, none⟩) (Kd.R_types HO_8.out BK253.out (by decide)) (fun _ hk => hk.2) (.int .i64 ((rd_T35 l0_1 (rd l1 x10_2)).f0))) (fun _ hk => hk.2) (.int .i64 ((rd_T35 l0_1 (rd l1 x10_2)).f1))) (fun _ hk => hk.2) (.int .i64 ((rd_T35 l0_1 (rd l1 x10_2)).f2))) (fun _ hk => hk.2) (.int .i64 ((rd_T35 l0_1 (rd l1 x10_2)).f3))) (fun _ h_ => h_.1))))) (zT (bB_ HB))); have n2_ := zA (zU (g := gb241) (o := .cells #[.int .i64 a0_0, .slice (some ad252) l0_1.length c0_1] 25 (0, 0)) (bD_ BK241) hb); have n3_ := zA (zU (g := gb253) (o := .cells #[.int .i64 ((rd_T35 l0_1 (rd l1 x10_2)).f0), .int .i64 ((rd_T35 l0_1 (rd l1 x10_2)).f1), .int .i64 ((rd_T35 l0_1 (rd l1 x10_2)).f2), .int .i64 ((rd_T35 l0_1 (rd l1 x10_2)).f3)] 35 (0, 0)) (by (with_reducible repeat (first | refine zM ?_ _ | refine zN ?_ | refine zO ?_ _)); refine blk_put (cs := #[.int .i64 ((rd_T35 l0_1 (rd l1 x10_2)).f0), .int .i64 ((rd_T35 l0_1 (rd l1 x10_2)).f1), .int .i64 ((rd_T35 l0_1 (rd l1 x10_2)).f2), .int .i64 0]) ?_ 3 _ rfl; (with_reducible repeat (first | refine zM ?_ _ | refine zN ?_ | refine zO ?_ _)); refine blk_put (cs := #[.int .i64 ((rd_T35 l0_1 (rd l1 x10_2)).f0), .int .i64 ((rd_T35 l0_1 (rd l1 x10_2)).f1), .int .i64 0, .int .i64 0]) ?_ 2 _ rfl; (with_reducible repeat (first | refine zM ?_ _ | refine zN ?_ | refine zO ?_ _)); refine blk_put (cs := #[.int .i64 ((rd_T35 l0_1 (rd l1 x10_2)).f0), .int .i64 0, .int .i64 0, .int .i64 0]) ?_ 1 _ rfl; (with_reducible repeat (first | refine zM ?_ _ | refine zN ?_ | refine zO ?_ _)); refine blk_put (cs := #[.int .i64 0, .int .i64 0, .int .i64 0, .int .i64 0]) ?_ 0 _ rfl; (with_reducible repeat (first | refine zM ?_ _ | refine zN ?_ | refine zO ?_ _)); exact BK253.out) hb); have n4_ := zA (below_step (bB_ HB) hb); clear HO_8; clear BK241; clear BK253; clear HB; have HO_8 := n0_; have HO262 := n1_; have BK241 := n2_; have BK253 := n3_; have HB := n4_; clear n0_ n1_ n2_ n3_ n4_; clear hb ho43; obtain ⟨Ao45, co45, eo45⟩ := Kd.R_slice HO262.out; subst eo45) | ((with_reducible refine gate_builtin (b := .append) (xs := #[.tmp 69, .tmp 85]) rfl ?_); at_builtin; refine Kd.R_append_rows k92 (w0 := w) w.heap.size rfl (.tmp 69) (.tmp 85) 89 92 (.agg #[(.int .i64 0), (.int .i64 0), (.int .i64 0)]) 24 rfl Try.underlying89 info92 rfl (by decide) (by omega) u8 x8_2 y260 _ _ _ (fun k_ => some k_ ≠ (.slice Ao45 y260.length co45 : Value).ownBlock) (fun _ => False) rfl rfl ?aO ?aR (fun _ _ h => h) (fun _ h => h.elim) ?aF ?aB ?aS ?aL ?_; (case aR => repeat (first | exact (zK HO262.out).2.2 | (with_reducible refine zI ?_ _) | (with_reducible refine zH ?_ _) | (with_reducible refine zJ ?_))); (case aB => exact (bB_ HB)); (case aF => exact (fun k_ hk => Kd.fresh' (Kd.R_lt (bC_ HO262)) k_ hk)); (case aO => exact (by (with_reducible repeat (first | apply zF | apply zE | apply zG)); exact Kd.R_mono HO_8.out (fun _ hk => hk.2))); (case aS => exact (zT (bB_ HB))); (case aL => have := LMc33.out; omega); intro v264 w44 ho hb hg hat; rw [← Ny263.out] at ho; have n0_ := zA (blk_grown (g := gb241) (o := .cells #[.int .i64 a0_0, .slice (some ad252) l0_1.length c0_1] 25 (0, 0)) (bA_ BK241) hg (Kd.R_ne HO_8.out BK241.out (by decide))); have n1_ := zA (blk_grown (g := gb253) (o := .cells #[.int .i64 ((rd_T35 l0_1 (rd l1 x10_2)).f0), .int .i64 ((rd_T35 l0_1 (rd l1 x10_2)).f1), .int .i64 ((rd_T35 l0_1 (rd l1 x10_2)).f2), .int .i64 ((rd_T35 l0_1 (rd l1 x10_2)).f3)] 35 (0, 0)) (bA_ BK253) hg (Kd.R_ne HO_8.out BK253.out (by decide))); have n2_ := zA (Kd.R_after (ok := (fun _ => True)) (bC_ HO262) hg hat); have n3_ := zA (hb); have n4_ := zA (ho); clear BK241; clear BK253; clear HO262; clear HB; clear HO_8; have BK241 := n0_; have BK253 := n1_; have HO262 := n2_; have HB := n3_; have HO265 := n4_; clear n0_ n1_ n2_ n3_ n4_; clear ho hb hg hat))
             go_roundg k2
             case measure => have := HK1.out; have := HK2.out; omega
             case rel => exact ⟨(y263), (wrap64 (x10_2 + 1)), (by first | rfl | (simp; done) | (simp [*]; done)), H', ⟨by have := HK1.out; have := HK2.out; omega⟩, ⟨by (with_reducible repeat (first | apply zF | apply zE | apply zG)); exact Kd.R_mono HO265.out (fun _ hk => trivial)⟩, ⟨bA_ BK241⟩, ⟨bB_ HB⟩⟩
            ·rw [if_neg c33] at H
             exact absurd H (by simp)
           ·rw [if_neg c32] at H
            have c32b0 : (((rd_T35 l0_1 (rd l1 x10_2)).f0) == (wrap64 (3 + a2))) = false := beq_eq_false_iff_ne.mpr c32
            have c32b1 : (((rd_T35 l0_1 (rd l1 x10_2)).f0) != (wrap64 (3 + a2))) = true := bne_iff_ne.mpr c32
            by_cases c46 : ((rd_T35 l0_1 (rd l1 x10_2)).f0) = (wrap64 (5 + a2))
            ·rw [if_pos c46] at H
             have c46b0 : (((rd_T35 l0_1 (rd l1 x10_2)).f0) == (wrap64 (5 + a2))) = true := beq_iff_eq.mpr c46
             have c46b1 : (((rd_T35 l0_1 (rd l1 x10_2)).f0) != (wrap64 (5 + a2))) = false := bne_eq_false_iff_eq.mpr c46
             clear c46
             by_cases c47 : x8_2.length < 5864062014805
             ·rw [if_pos c47] at H
              have LMc47 := zA c47
              clear c47
              obtain ⟨y266, hy266⟩ : ∃ y_ : List (S92), y_ = (x8_2 ++ [(⟨(rd_T35 l0_1 (rd l1 x10_2)).f1, (rd_T35 l0_1 (rd l1 x10_2)).f2, (rd_T35 l0_1 (rd l1 x10_2)).f3⟩ : S92)]) := ⟨_, rfl⟩
              replace H : (spec_l04Steps.l1 k2 l1 a2 a0_0 y266 (wrap64 (x10_2 + 1)) a0_0 l0_1) = some r := by first | (rw [hy266]; with_reducible exact H) | (have H2_ := (Option.bind_some _ _).symm.trans H; rw [hy266]; with_reducible exact H2_) | (have H2_ := (Option.bind_some _ _).symm.trans H; with_reducible exact H2_) | with_reducible exact H | (rw [hy266]; exact H) | exact H
              have Ny266 := zA hy266
              clear hy266
              have H' := zA H
              clear H
              try go_wp2
              have n0_ := zA (zG HO_8.out)
              have n1_ := zA (zN BK241.out)
              have n2_ := zA (zQ HB.out)
              clear HO_8
              clear BK241
              clear HB
              have HO_8 := n0_
              have BK241 := n1_
              have HB := n2_
              clear n0_ n1_ n2_
              have p251 : 0 ≤ (x10_2 : Int) := of_decide_eq_true (by first | (with_reducible assumption) | assumption)
              have q251 : x10_2 < (l1.length : Int) := of_decide_eq_true (by first | (with_reducible assumption) | assumption)
              obtain ⟨ad251, e251, hx251_0⟩ := Kd.at_int HR1.out x10_2 p251 q251
              have hw251_0 := hx251_0
              cases e251
              replace hx251_0 := hb_ HB.out hx251_0
              replace p251 := eq_true p251
              replace q251 := eq_true q251
              have p252 : 0 ≤ ((rd l1 x10_2) : Int) := of_decide_eq_true (by first | (with_reducible assumption) | assumption)
              have q252 : (rd l1 x10_2) < (l0_1.length : Int) := of_decide_eq_true (by first | (with_reducible assumption) | assumption)
              obtain ⟨ad252, e252, hx252_0, hx252_1, hx252_2, hx252_3⟩ := at_T35 HR0_1.out (rd l1 x10_2) p252 q252
              have hw252_3 := hx252_3
              have hw252_2 := hx252_2
              have hw252_1 := hx252_1
              have hw252_0 := hx252_0
              cases e252
              replace hx252_0 := hb_ HB.out hx252_0
              replace hx252_1 := hb_ HB.out hx252_1
              replace hx252_2 := hb_ HB.out hx252_2
              replace hx252_3 := hb_ HB.out hx252_3
              replace p252 := eq_true p252
              replace q252 := eq_true q252
              refine start_ (n := 10) (S := fun w' => w'.cell? ⟨gb241, 0, none⟩ = some (.int .i64 a0_0) ∧ w'.cell? ⟨gb241, 1, none⟩ = some (.slice (some ad252) l0_1.length c0_1) ∧ w'.cell? (ad251.add (x10_2).toNat) = some (.int .i64 (rd l1 x10_2)) ∧ w'.cell? (ad252.add (((rd l1 x10_2)).toNat * 4)) = some (.int .i64 ((rd_T35 l0_1 (rd l1 x10_2)).f0)) ∧ w'.cell? ⟨(ad252.add (((rd l1 x10_2)).toNat * 4)).block, (ad252.add (((rd l1 x10_2)).toNat * 4)).off + 1, none⟩ = some (.int .i64 ((rd_T35 l0_1 (rd l1 x10_2)).f1)) ∧ w'.cell? ⟨(ad252.add (((rd l1 x10_2)).toNat * 4)).block, (ad252.add (((rd l1 x10_2)).toNat * 4)).off + 2, none⟩ = some (.int .i64 ((rd_T35 l0_1 (rd l1 x10_2)).f2)) ∧ w'.cell? ⟨(ad252.add (((rd l1 x10_2)).toNat * 4)).block, (ad252.add (((rd l1 x10_2)).toNat * 4)).off + 3, none⟩ = some (.int .i64 ((rd_T35 l0_1 (rd l1 x10_2)).f3))) (ds := []) #[false, false, false, false, false, false, false, false, false, false] (by kernel_rfl) rfl rfl ⟨(blk_cell BK241.out 0).trans rfl, (blk_cell BK241.out 1).trans rfl, (hb_ HB.out hw251_0), (hb_ HB.out hw252_0), (hb_ HB.out hw252_1), (hb_ HB.out hw252_2), (hb_ HB.out hw252_3)⟩ (fun hHeld => ?_); refine with_tabW spec_l04Steps.tab10 spec_l04Steps.bits10 (fun HT_ HW_ => ?_)
              generalize wr.drew = w48 at HO_8 BK241 HB hx251_0 hx252_0 hx252_1 hx252_2 hx252_3 hHeld ⊢
              refine pure_ (i := 0) (N := some 35) (v := ?_) (a' := ?_) #[true, false, false, false, false, false, false, false, false, false] rfl rfl (any_of HT_.out (by kernel_rfl)) (fun _ _ _ h => h) (Or.inl ⟨by rfl, ?_⟩) ?_ ?_
              rotate_left
              ·intro w'
               go_simp
               with_reducible rfl
              rotate_left
              ·simp only [Act.put, zB, zC, zD, i64_w, i32_w]
               rfl
              refine pure_ (i := 2) (N := some 37) (v := ?_) (a' := ?_) #[true, false, true, false, false, false, false, false, false, false] rfl rfl (any_of HT_.out (by kernel_rfl)) (fun _ _ _ h => h) (Or.inl ⟨by rfl, ?_⟩) ?_ ?_
              rotate_left
              ·intro w'
               go_simp
               with_reducible rfl
              rotate_left
              ·simp only [Act.put, zB, zC, zD, i64_w, i32_w]
               rfl
              refine pure_ (i := 3) (N := some 38) (v := ?_) (a' := ?_) #[true, false, true, true, false, false, false, false, false, false] rfl rfl (any_of HT_.out (by kernel_rfl)) (fun _ _ _ h => h) (Or.inl ⟨by rfl, ?_⟩) ?_ ?_
              rotate_left
              ·intro w'
               go_simp
               with_reducible rfl
              rotate_left
              ·simp only [Act.put, zB, zC, zD, i64_w, i32_w]
               rfl
              refine pure_ (i := 4) (N := some 39) (v := ?_) (a' := ?_) #[true, false, true, true, true, false, false, false, false, false] rfl rfl (any_of HT_.out (by kernel_rfl)) (fun _ _ _ h => h) (Or.inl ⟨by rfl, ?_⟩) ?_ ?_
              rotate_left
              ·intro w'
               go_simp
               with_reducible rfl
              rotate_left
              ·simp only [Act.put, zB, zC, zD, i64_w, i32_w]
               rfl
              refine take_ (i := 1) (N := some 36) (v := ?_) (a' := ?_) #[true, true, true, true, true, false, false, false, false, false] rfl rfl (take_ofW HT_.out HW_.out (by kernel_rfl)) (fun _ _ _ h => h) (Or.inl ⟨by rfl, ?_⟩) hHeld ?_ ?_
              rotate_left
              ·rintro w' ⟨s0, s1, s2, s3, s4, s5, s6⟩
               go_simp
               with_reducible rfl
              rotate_left
              ·simp only [Act.put, zB, zC, zD, i64_w, i32_w]
               rfl
              refine take_ (i := 5) (N := some 40) (v := ?_) (a' := ?_) #[true, true, true, true, true, true, false, false, false, false] rfl rfl (take_ofW HT_.out HW_.out (by kernel_rfl)) (fun _ _ _ h => h) (Or.inl ⟨by rfl, ?_⟩) hHeld ?_ ?_
              rotate_left
              ·rintro w' ⟨s0, s1, s2, s3, s4, s5, s6⟩
               go_simp
               with_reducible rfl
              rotate_left
              ·simp only [Act.put, zB, zC, zD, i64_w, i32_w]
               rfl
              refine pure_ (i := 6) (N := some 41) (v := ?_) (a' := ?_) #[true, true, true, true, true, true, true, false, false, false] rfl rfl (any_of HT_.out (by kernel_rfl)) (fun _ _ _ h => h) (Or.inl ⟨by rfl, ?_⟩) ?_ ?_
              rotate_left
              ·intro w'
               go_simp
               with_reducible rfl
              rotate_left
              ·simp only [Act.put, zB, zC, zD, i64_w, i32_w]
               rfl
              refine take_ (i := 7) (N := some 42) (v := ?_) (a' := ?_) #[true, true, true, true, true, true, true, true, false, false] rfl rfl (take_ofW HT_.out HW_.out (by kernel_rfl)) (fun _ _ _ h => h) (Or.inl ⟨by rfl, ?_⟩) hHeld ?_ ?_
              rotate_left
              ·rintro w' ⟨s0, s1, s2, s3, s4, s5, s6⟩
               go_simp
               with_reducible rfl
              rotate_left
              ·simp only [Act.put, zB, zC, zD, i64_w, i32_w]
               rfl
              refine one_ (i := 8) (N := some 11) #[true, true, true, true, true, true, true, true, true, false] rfl rfl (one_of HT_.out (by kernel_rfl)) (by decide) (fun K hK => ?_)
              refine box_step ?hg (N := 11) ?hd (cs := #[.int .i64 0, .int .i64 0, .int .i64 0, .int .i64 0]) (t := 35) ?hr ?_; (case hd => rfl); (case hg => rfl); (case hr => first | (go_simp; done) | (go_simp; rfl))
              intro gb253 hg w49 hbox hb
              have n0_ := zA (zL (bC_ HO_8) hb)
              have n1_ := zA (zU (g := gb241) (o := .cells #[.int .i64 a0_0, .slice (some ad252) l0_1.length c0_1] 25 (0, 0)) (bA_ BK241) hb)
              have n2_ := zA (below_step (bB_ HB) hb)
              have n3_ := zA (hbox)
              have n4_ := zA ((by rw [hg]; exact (zT (bB_ HB)) : w.heap.size ≤ gb253))
              have n5_ := zA ((by rw [hg]; exact (zT (bB_ HB)) : w.heap.size ≤ gb253))
              have n6_ := zA ((by rw [hg]; exact Nat.ne_of_lt (blk_lt (g := gb241) (o := .cells #[.int .i64 a0_0, .slice (some ad252) l0_1.length c0_1] 25 (0, 0)) (bA_ BK241)) : gb241 ≠ gb253))
              have n7_ := zA ((by rw [hg]; exact Nat.ne_of_gt (blk_lt (g := gb241) (o := .cells #[.int .i64 a0_0, .slice (some ad252) l0_1.length c0_1] 25 (0, 0)) (bA_ BK241)) : gb253 ≠ gb241))
              clear HO_8
              clear BK241
              clear HB
              have HO_8 := n0_
              have BK241 := n1_
              have HB := n2_
              have BK253 := n3_
              have GW253 := n4_
              have GE253 := n5_
              have NB241_253 := n6_
              have NB253_241 := n7_
              clear n0_ n1_ n2_ n3_ n4_ n5_ n6_ n7_
              clear hb hbox hg
              refine hK.out _ _ ⟨(blk_cell BK241.out 0).trans rfl, (blk_cell BK241.out 1).trans rfl, (hb_ HB.out hw251_0), (hb_ HB.out hw252_0), (hb_ HB.out hw252_1), (hb_ HB.out hw252_2), (hb_ HB.out hw252_3)⟩ (fun hHeld => ?_)
              clear hK K
              refine norm_ (a' := ?_) ?_ ?_
              rotate_left
              ·show Act.put _ (some 11) _ = _
               simp only [Act.put, zB, zC, zD, i64_w, i32_w]
               rfl
              refine one_ (i := 9) (N := none) #[true, true, true, true, true, true, true, true, true, true] rfl rfl (one_of HT_.out (by kernel_rfl)) (by decide) (fun K hK => ?_)
              have hs50 : w49.cell? ⟨gb253, 0, none⟩ = some (.int .i64 0) := (blk_cell BK253.out 0).trans rfl
              have hfs50 := blk_frozen BK253.out 0
              have hns50_0 := NB241_253.out
              have hms50_0 := NB253_241.out
              have hs51 : w49.cell? ⟨gb253, 1, none⟩ = some (.int .i64 0) := (blk_cell BK253.out 1).trans rfl
              have hfs51 := blk_frozen BK253.out 1
              have hns51_0 := NB241_253.out
              have hms51_0 := NB253_241.out
              have hs52 : w49.cell? ⟨gb253, 2, none⟩ = some (.int .i64 0) := (blk_cell BK253.out 2).trans rfl
              have hfs52 := blk_frozen BK253.out 2
              have hns52_0 := NB241_253.out
              have hms52_0 := NB253_241.out
              have hs53 : w49.cell? ⟨gb253, 3, none⟩ = some (.int .i64 0) := (blk_cell BK253.out 3).trans rfl
              have hfs53 := blk_frozen BK253.out 3
              have hns53_0 := NB241_253.out
              have hms53_0 := NB253_241.out
              refine skip_ (w1 := ?_) (by rfl) rfl ?_ ?_
              rotate_left
              ·go_simp
               rfl
              refine hK.out _ _ ⟨((cell_far (p := ⟨gb253, _, none⟩) NB241_253.out _).trans (((cell_far (p := ⟨gb253, _, none⟩) NB241_253.out _).trans (((cell_far (p := ⟨gb253, _, none⟩) NB241_253.out _).trans (((cell_far (p := ⟨gb253, _, none⟩) NB241_253.out _).trans (hHeld.1)))))))), ((cell_far (p := ⟨gb253, _, none⟩) NB241_253.out _).trans (((cell_far (p := ⟨gb253, _, none⟩) NB241_253.out _).trans (((cell_far (p := ⟨gb253, _, none⟩) NB241_253.out _).trans (((cell_far (p := ⟨gb253, _, none⟩) NB241_253.out _).trans (hHeld.2.1)))))))), ((cell_far (p := ⟨gb253, _, none⟩) (by first | exact nbA_ hw251_0 GW253.out | exact nbB_ hw251_0 GW253.out | exact nbC_ hw251_0 GW253.out | exact nbD_ hw251_0 GW253.out) _).trans (((cell_far (p := ⟨gb253, _, none⟩) (by first | exact nbA_ hw251_0 GW253.out | exact nbB_ hw251_0 GW253.out | exact nbC_ hw251_0 GW253.out | exact nbD_ hw251_0 GW253.out) _).trans (((cell_far (p := ⟨gb253, _, none⟩) (by first | exact nbA_ hw251_0 GW253.out | exact nbB_ hw251_0 GW253.out | exact nbC_ hw251_0 GW253.out | exact nbD_ hw251_0 GW253.out) _).trans (((cell_far (p := ⟨gb253, _, none⟩) (by first | exact nbA_ hw251_0 GW253.out | exact nbB_ hw251_0 GW253.out | exact nbC_ hw251_0 GW253.out | exact nbD_ hw251_0 GW253.out) _).trans (hHeld.2.2.1)))))))), ((cell_far (p := ⟨gb253, _, none⟩) (by first | exact nbA_ hw252_0 GW253.out | exact nbB_ hw252_0 GW253.out | exact nbC_ hw252_0 GW253.out | exact nbD_ hw252_0 GW253.out) _).trans (((cell_far (p := ⟨gb253, _, none⟩) (by first | exact nbA_ hw252_0 GW253.out | exact nbB_ hw252_0 GW253.out | exact nbC_ hw252_0 GW253.out | exact nbD_ hw252_0 GW253.out) _).trans (((cell_far (p := ⟨gb253, _, none⟩) (by first | exact nbA_ hw252_0 GW253.out | exact nbB_ hw252_0 GW253.out | exact nbC_ hw252_0 GW253.out | exact nbD_ hw252_0 GW253.out) _).trans (((cell_far (p := ⟨gb253, _, none⟩) (by first | exact nbA_ hw252_0 GW253.out | exact nbB_ hw252_0 GW253.out | exact nbC_ hw252_0 GW253.out | exact nbD_ hw252_0 GW253.out) _).trans (hHeld.2.2.2.1)))))))), ((cell_far (p := ⟨gb253, _, none⟩) (by first | exact nbA_ hw252_1 GW253.out | exact nbB_ hw252_1 GW253.out | exact nbC_ hw252_1 GW253.out | exact nbD_ hw252_1 GW253.out) _).trans (((cell_far (p := ⟨gb253, _, none⟩) (by first | exact nbA_ hw252_1 GW253.out | exact nbB_ hw252_1 GW253.out | exact nbC_ hw252_1 GW253.out | exact nbD_ hw252_1 GW253.out) _).trans (((cell_far (p := ⟨gb253, _, none⟩) (by first | exact nbA_ hw252_1 GW253.out | exact nbB_ hw252_1 GW253.out | exact nbC_ hw252_1 GW253.out | exact nbD_ hw252_1 GW253.out) _).trans (((cell_far (p := ⟨gb253, _, none⟩) (by first | exact nbA_ hw252_1 GW253.out | exact nbB_ hw252_1 GW253.out | exact nbC_ hw252_1 GW253.out | exact nbD_ hw252_1 GW253.out) _).trans (hHeld.2.2.2.2.1)))))))), ((cell_far (p := ⟨gb253, _, none⟩) (by first | exact nbA_ hw252_2 GW253.out | exact nbB_ hw252_2 GW253.out | exact nbC_ hw252_2 GW253.out | exact nbD_ hw252_2 GW253.out) _).trans (((cell_far (p := ⟨gb253, _, none⟩) (by first | exact nbA_ hw252_2 GW253.out | exact nbB_ hw252_2 GW253.out | exact nbC_ hw252_2 GW253.out | exact nbD_ hw252_2 GW253.out) _).trans (((cell_far (p := ⟨gb253, _, none⟩) (by first | exact nbA_ hw252_2 GW253.out | exact nbB_ hw252_2 GW253.out | exact nbC_ hw252_2 GW253.out | exact nbD_ hw252_2 GW253.out) _).trans (((cell_far (p := ⟨gb253, _, none⟩) (by first | exact nbA_ hw252_2 GW253.out | exact nbB_ hw252_2 GW253.out | exact nbC_ hw252_2 GW253.out | exact nbD_ hw252_2 GW253.out) _).trans (hHeld.2.2.2.2.2.1)))))))), ((cell_far (p := ⟨gb253, _, none⟩) (by first | exact nbA_ hw252_3 GW253.out | exact nbB_ hw252_3 GW253.out | exact nbC_ hw252_3 GW253.out | exact nbD_ hw252_3 GW253.out) _).trans (((cell_far (p := ⟨gb253, _, none⟩) (by first | exact nbA_ hw252_3 GW253.out | exact nbB_ hw252_3 GW253.out | exact nbC_ hw252_3 GW253.out | exact nbD_ hw252_3 GW253.out) _).trans (((cell_far (p := ⟨gb253, _, none⟩) (by first | exact nbA_ hw252_3 GW253.out | exact nbB_ hw252_3 GW253.out | exact nbC_ hw252_3 GW253.out | exact nbD_ hw252_3 GW253.out) _).trans (((cell_far (p := ⟨gb253, _, none⟩) (by first | exact nbA_ hw252_3 GW253.out | exact nbB_ hw252_3 GW253.out | exact nbC_ hw252_3 GW253.out | exact nbD_ hw252_3 GW253.out) _).trans (hHeld.2.2.2.2.2.2))))))))⟩ (fun hHeld => ?_)
              clear hK K
              refine done_ (done_of HT_.out (by kernel_rfl)) ?_
              have hnb54 := NB253_241.out
              have hnc54 := NB241_253.out
              have hcz55_0 : w49.cell? ⟨gb253, 0, none⟩ = some (.int .i64 0) := (blk_cell BK253.out 0).trans rfl
              have hcz55_1 : w49.cell? ⟨gb253, 1, none⟩ = some (.int .i64 0) := (blk_cell BK253.out 1).trans rfl
              have hcz55_2 : w49.cell? ⟨gb253, 2, none⟩ = some (.int .i64 0) := (blk_cell BK253.out 2).trans rfl
              have hcz55_3 : w49.cell? ⟨gb253, 3, none⟩ = some (.int .i64 0) := (blk_cell BK253.out 3).trans rfl
              have hfz55_0 := blk_frozen BK253.out 0
              have hfz55_1 := blk_frozen BK253.out 1
              have hfz55_2 := blk_frozen BK253.out 2
              have hfz55_3 := blk_frozen BK253.out 3
              try go_wp2_with (first | ((with_reducible refine gate_builtin (b := .append) (xs := #[.tmp 91, .tmp 99]) rfl ?_); at_builtin; refine Kd.R_append k92 (w0 := w) w.heap.size rfl (.tmp 91) (.tmp 99) 89 92 (.agg #[(.int .i64 0), (.int .i64 0), (.int .i64 0)]) 24 rfl Try.underlying89 info92 rfl (by decide) (by omega) u8 x8_2 (⟨(rd_T35 l0_1 (rd l1 x10_2)).f1, (rd_T35 l0_1 (rd l1 x10_2)).f2, (rd_T35 l0_1 (rd l1 x10_2)).f3⟩ : S92) [.int .i64 ((rd_T35 l0_1 (rd l1 x10_2)).f1), .int .i64 ((rd_T35 l0_1 (rd l1 x10_2)).f2), .int .i64 ((rd_T35 l0_1 (rd l1 x10_2)).f3)] (fun _ => True) (fun _ => False) rfl (by first | (go_simp; done) | (go_simp; rfl)) ?aP (fun _ hk => hk.elim) ?aF ?aO ?aB ?aS ?aL ?_; (case aP => exact k92_mkM _ _ _ (⟨(rd_T35 l0_1 (rd l1 x10_2)).f1, (rd_T35 l0_1 (rd l1 x10_2)).f2, (rd_T35 l0_1 (rd l1 x10_2)).f3⟩ : S92)); (case aB => exact (bB_ HB)); (case aF => exact (fun _ _ => trivial)); (case aO => exact (by (with_reducible repeat (first | apply zF | apply zE | apply zG)); exact Kd.R_mono (Kd.R_far (p := ⟨gb253, 3, none⟩) (Kd.R_far (p := ⟨gb253, 2, none⟩) (Kd.R_far (p := ⟨gb253, 1, none⟩) (Kd.R_far (p := ⟨gb253, 0, none⟩) (Kd.R_types HO_8.out BK253.out (by decide)) (fun _ hk => hk.2) (.int .i64 ((rd_T35 l0_1 (rd l1 x10_2)).f0))) (fun _ hk => hk.2) (.int .i64 ((rd_T35 l0_1 (rd l1 x10_2)).f1))) (fun _ hk => hk.2) (.int .i64 ((rd_T35 l0_1 (rd l1 x10_2)).f2))) (fun _ hk => hk.2) (.int .i64 ((rd_T35 l0_1 (rd l1 x10_2)).f3))) (fun _ hk => trivial))); (case aS => exact (zT (bB_ HB))); (case aL => have := LMc47.out; omega); intro v267 w56 ho hb hg hat; rw [← Ny266.out] at ho; have n0_ := zA (blk_grown (g := gb241) (o := .cells #[.int .i64 a0_0, .slice (some ad252) l0_1.length c0_1] 25 (0, 0)) (bD_ BK241) hg (Kd.R_ne HO_8.out BK241.out (by decide))); have n1_ := zA (blk_grown (g := gb253) (o := .cells #[.int .i64 ((rd_T35 l0_1 (rd l1 x10_2)).f0), .int .i64 ((rd_T35 l0_1 (rd l1 x10_2)).f1), .int .i64 ((rd_T35 l0_1 (rd l1 x10_2)).f2), .int .i64 ((rd_T35 l0_1 (rd l1 x10_2)).f3)] 35 (0, 0)) (by (with_reducible repeat (first | refine zM ?_ _ | refine zN ?_ | refine zO ?_ _)); refine blk_put (cs := #[.int .i64 ((rd_T35 l0_1 (rd l1 x10_2)).f0), .int .i64 ((rd_T35 l0_1 (rd l1 x10_2)).f1), .int .i64 ((rd_T35 l0_1 (rd l1 x10_2)).f2), .int .i64 0]) ?_ 3 _ rfl; (with_reducible repeat (first | refine zM ?_ _ | refine zN ?_ | refine zO ?_ _)); refine blk_put (cs := #[.int .i64 ((rd_T35 l0_1 (rd l1 x10_2)).f0), .int .i64 ((rd_T35 l0_1 (rd l1 x10_2)).f1), .int .i64 0, .int .i64 0]) ?_ 2 _ rfl; (with_reducible repeat (first | refine zM ?_ _ | refine zN ?_ | refine zO ?_ _)); refine blk_put (cs := #[.int .i64 ((rd_T35 l0_1 (rd l1 x10_2)).f0), .int .i64 0, .int .i64 0, .int .i64 0]) ?_ 1 _ rfl; (with_reducible repeat (first | refine zM ?_ _ | refine zN ?_ | refine zO ?_ _)); refine blk_put (cs := #[.int .i64 0, .int .i64 0, .int .i64 0, .int .i64 0]) ?_ 0 _ rfl; (with_reducible repeat (first | refine zM ?_ _ | refine zN ?_ | refine zO ?_ _)); exact BK253.out) hg (Kd.R_ne HO_8.out BK253.out (by decide))); have n2_ := zA (hb); have n3_ := zA (ho); clear BK241; clear BK253; clear HB; clear HO_8; have BK241 := n0_; have BK253 := n1_; have HB := n2_; have HO268 := n3_; clear n0_ n1_ n2_ n3_; clear ho hb hg hat))
              go_roundg k2
              case measure => have := HK1.out; have := HK2.out; omega
              case rel => exact ⟨(y266), (wrap64 (x10_2 + 1)), (by first | rfl | (simp; done) | (simp [*]; done)), H', ⟨by have := HK1.out; have := HK2.out; omega⟩, ⟨bC_ HO268⟩, ⟨bA_ BK241⟩, ⟨bB_ HB⟩⟩
             ·rw [if_neg c47] at H
              exact absurd H (by simp)
            ·rw [if_neg c46] at H
             have c46b0 : (((rd_T35 l0_1 (rd l1 x10_2)).f0) == (wrap64 (5 + a2))) = false := beq_eq_false_iff_ne.mpr c46
             have c46b1 : (((rd_T35 l0_1 (rd l1 x10_2)).f0) != (wrap64 (5 + a2))) = true := bne_iff_ne.mpr c46
             by_cases c57 : ((rd_T35 l0_1 (rd l1 x10_2)).f0) = (wrap64 (7 + a2))
             ·rw [if_pos c57] at H
              have c57b0 : (((rd_T35 l0_1 (rd l1 x10_2)).f0) == (wrap64 (7 + a2))) = true := beq_iff_eq.mpr c57
              have c57b1 : (((rd_T35 l0_1 (rd l1 x10_2)).f0) != (wrap64 (7 + a2))) = false := bne_eq_false_iff_eq.mpr c57
              clear c57
              obtain ⟨y269, hy269⟩ : ∃ y_ : List (S92), y_ = (([(⟨(rd_T35 l0_1 (rd l1 x10_2)).f1, (rd_T35 l0_1 (rd l1 x10_2)).f2, 0⟩ : S92), (⟨(rd_T35 l0_1 (rd l1 x10_2)).f2, (rd_T35 l0_1 (rd l1 x10_2)).f1, 0⟩ : S92)] : List (S92))) := ⟨_, rfl⟩
              replace H : (if x8_2.length + y269.length < 5864062014805 then (spec_l04Steps.l1 k2 l1 a2 a0_0 (x8_2 ++ y269) (wrap64 (x10_2 + 1)) a0_0 l0_1) else (none)) = some r := by first | (rw [hy269]; with_reducible exact H) | (have H2_ := (Option.bind_some _ _).symm.trans H; rw [hy269]; with_reducible exact H2_) | (have H2_ := (Option.bind_some _ _).symm.trans H; with_reducible exact H2_) | with_reducible exact H | (rw [hy269]; exact H) | exact H
              have Ny269 := zA hy269
              clear hy269
              by_cases c58 : x8_2.length + y269.length < 5864062014805
              ·rw [if_pos c58] at H
               have LMc58 := zA c58
               clear c58
               obtain ⟨y272, hy272⟩ : ∃ y_ : List (S92), y_ = (x8_2 ++ y269) := ⟨_, rfl⟩
               replace H : (spec_l04Steps.l1 k2 l1 a2 a0_0 y272 (wrap64 (x10_2 + 1)) a0_0 l0_1) = some r := by first | (rw [hy272]; with_reducible exact H) | (have H2_ := (Option.bind_some _ _).symm.trans H; rw [hy272]; with_reducible exact H2_) | (have H2_ := (Option.bind_some _ _).symm.trans H; with_reducible exact H2_) | with_reducible exact H | (rw [hy272]; exact H) | exact H
               have Ny272 := zA hy272
               clear hy272
               have H' := zA H
               clear H
               try go_wp2
               have n0_ := zA (zG HO_8.out)
               have n1_ := zA (zN BK241.out)
               have n2_ := zA (zQ HB.out)
               clear HO_8
               clear BK241
               clear HB
               have HO_8 := n0_
               have BK241 := n1_
               have HB := n2_
               clear n0_ n1_ n2_
               have p251 : 0 ≤ (x10_2 : Int) := of_decide_eq_true (by first | (with_reducible assumption) | assumption)
               have q251 : x10_2 < (l1.length : Int) := of_decide_eq_true (by first | (with_reducible assumption) | assumption)
               obtain ⟨ad251, e251, hx251_0⟩ := Kd.at_int HR1.out x10_2 p251 q251
               have hw251_0 := hx251_0
               cases e251
               replace hx251_0 := hb_ HB.out hx251_0
               replace p251 := eq_true p251
               replace q251 := eq_true q251
               have p252 : 0 ≤ ((rd l1 x10_2) : Int) := of_decide_eq_true (by first | (with_reducible assumption) | assumption)
               have q252 : (rd l1 x10_2) < (l0_1.length : Int) := of_decide_eq_true (by first | (with_reducible assumption) | assumption)
               obtain ⟨ad252, e252, hx252_0, hx252_1, hx252_2, hx252_3⟩ := at_T35 HR0_1.out (rd l1 x10_2) p252 q252
               have hw252_3 := hx252_3
               have hw252_2 := hx252_2
               have hw252_1 := hx252_1
               have hw252_0 := hx252_0
               cases e252
               replace hx252_0 := hb_ HB.out hx252_0
               replace hx252_1 := hb_ HB.out hx252_1
               replace hx252_2 := hb_ HB.out hx252_2
               replace hx252_3 := hb_ HB.out hx252_3
               replace p252 := eq_true p252
               replace q252 := eq_true q252
               refine start_ (n := 10) (S := fun w' => w'.cell? ⟨gb241, 0, none⟩ = some (.int .i64 a0_0) ∧ w'.cell? ⟨gb241, 1, none⟩ = some (.slice (some ad252) l0_1.length c0_1) ∧ w'.cell? (ad251.add (x10_2).toNat) = some (.int .i64 (rd l1 x10_2)) ∧ w'.cell? (ad252.add (((rd l1 x10_2)).toNat * 4)) = some (.int .i64 ((rd_T35 l0_1 (rd l1 x10_2)).f0)) ∧ w'.cell? ⟨(ad252.add (((rd l1 x10_2)).toNat * 4)).block, (ad252.add (((rd l1 x10_2)).toNat * 4)).off + 1, none⟩ = some (.int .i64 ((rd_T35 l0_1 (rd l1 x10_2)).f1)) ∧ w'.cell? ⟨(ad252.add (((rd l1 x10_2)).toNat * 4)).block, (ad252.add (((rd l1 x10_2)).toNat * 4)).off + 2, none⟩ = some (.int .i64 ((rd_T35 l0_1 (rd l1 x10_2)).f2)) ∧ w'.cell? ⟨(ad252.add (((rd l1 x10_2)).toNat * 4)).block, (ad252.add (((rd l1 x10_2)).toNat * 4)).off + 3, none⟩ = some (.int .i64 ((rd_T35 l0_1 (rd l1 x10_2)).f3))) (ds := []) #[false, false, false, false, false, false, false, false, false, false] (by kernel_rfl) rfl rfl ⟨(blk_cell BK241.out 0).trans rfl, (blk_cell BK241.out 1).trans rfl, (hb_ HB.out hw251_0), (hb_ HB.out hw252_0), (hb_ HB.out hw252_1), (hb_ HB.out hw252_2), (hb_ HB.out hw252_3)⟩ (fun hHeld => ?_); refine with_tabW spec_l04Steps.tab10 spec_l04Steps.bits10 (fun HT_ HW_ => ?_)
               generalize wr.drew = w59 at HO_8 BK241 HB hx251_0 hx252_0 hx252_1 hx252_2 hx252_3 hHeld ⊢
               refine pure_ (i := 0) (N := some 35) (v := ?_) (a' := ?_) #[true, false, false, false, false, false, false, false, false, false] rfl rfl (any_of HT_.out (by kernel_rfl)) (fun _ _ _ h => h) (Or.inl ⟨by rfl, ?_⟩) ?_ ?_
               rotate_left
               ·intro w'
                go_simp
                with_reducible rfl
               rotate_left
               ·simp only [Act.put, zB, zC, zD, i64_w, i32_w]
                rfl
               refine pure_ (i := 2) (N := some 37) (v := ?_) (a' := ?_) #[true, false, true, false, false, false, false, false, false, false] rfl rfl (any_of HT_.out (by kernel_rfl)) (fun _ _ _ h => h) (Or.inl ⟨by rfl, ?_⟩) ?_ ?_
               rotate_left
               ·intro w'
                go_simp
                with_reducible rfl
               rotate_left
               ·simp only [Act.put, zB, zC, zD, i64_w, i32_w]
                rfl
               refine pure_ (i := 3) (N := some 38) (v := ?_) (a' := ?_) #[true, false, true, true, false, false, false, false, false, false] rfl rfl (any_of HT_.out (by kernel_rfl)) (fun _ _ _ h => h) (Or.inl ⟨by rfl, ?_⟩) ?_ ?_
               rotate_left
               ·intro w'
                go_simp
                with_reducible rfl
               rotate_left
               ·simp only [Act.put, zB, zC, zD, i64_w, i32_w]
                rfl
               refine pure_ (i := 4) (N := some 39) (v := ?_) (a' := ?_) #[true, false, true, true, true, false, false, false, false, false] rfl rfl (any_of HT_.out (by kernel_rfl)) (fun _ _ _ h => h) (Or.inl ⟨by rfl, ?_⟩) ?_ ?_
               rotate_left
               ·intro w'
                go_simp
                with_reducible rfl
               rotate_left
               ·simp only [Act.put, zB, zC, zD, i64_w, i32_w]
                rfl
               refine take_ (i := 1) (N := some 36) (v := ?_) (a' := ?_) #[true, true, true, true, true, false, false, false, false, false] rfl rfl (take_ofW HT_.out HW_.out (by kernel_rfl)) (fun _ _ _ h => h) (Or.inl ⟨by rfl, ?_⟩) hHeld ?_ ?_
               rotate_left
               ·rintro w' ⟨s0, s1, s2, s3, s4, s5, s6⟩
                go_simp
                with_reducible rfl
               rotate_left
               ·simp only [Act.put, zB, zC, zD, i64_w, i32_w]
                rfl
               refine take_ (i := 5) (N := some 40) (v := ?_) (a' := ?_) #[true, true, true, true, true, true, false, false, false, false] rfl rfl (take_ofW HT_.out HW_.out (by kernel_rfl)) (fun _ _ _ h => h) (Or.inl ⟨by rfl, ?_⟩) hHeld ?_ ?_
               rotate_left
               ·rintro w' ⟨s0, s1, s2, s3, s4, s5, s6⟩
                go_simp
                with_reducible rfl
               rotate_left
               ·simp only [Act.put, zB, zC, zD, i64_w, i32_w]
                rfl
               refine pure_ (i := 6) (N := some 41) (v := ?_) (a' := ?_) #[true, true, true, true, true, true, true, false, false, false] rfl rfl (any_of HT_.out (by kernel_rfl)) (fun _ _ _ h => h) (Or.inl ⟨by rfl, ?_⟩) ?_ ?_
               rotate_left
               ·intro w'
                go_simp
                with_reducible rfl
               rotate_left
               ·simp only [Act.put, zB, zC, zD, i64_w, i32_w]
                rfl
               refine take_ (i := 7) (N := some 42) (v := ?_) (a' := ?_) #[true, true, true, true, true, true, true, true, false, false] rfl rfl (take_ofW HT_.out HW_.out (by kernel_rfl)) (fun _ _ _ h => h) (Or.inl ⟨by rfl, ?_⟩) hHeld ?_ ?_
               rotate_left
               ·rintro w' ⟨s0, s1, s2, s3, s4, s5, s6⟩
                go_simp
                with_reducible rfl
               rotate_left
               ·simp only [Act.put, zB, zC, zD, i64_w, i32_w]
                rfl
               refine one_ (i := 8) (N := some 11) #[true, true, true, true, true, true, true, true, true, false] rfl rfl (one_of HT_.out (by kernel_rfl)) (by decide) (fun K hK => ?_)
               refine box_step ?hg (N := 11) ?hd (cs := #[.int .i64 0, .int .i64 0, .int .i64 0, .int .i64 0]) (t := 35) ?hr ?_; (case hd => rfl); (case hg => rfl); (case hr => first | (go_simp; done) | (go_simp; rfl))
               intro gb253 hg w60 hbox hb
               have n0_ := zA (zL (bC_ HO_8) hb)
               have n1_ := zA (zU (g := gb241) (o := .cells #[.int .i64 a0_0, .slice (some ad252) l0_1.length c0_1] 25 (0, 0)) (bA_ BK241) hb)
               have n2_ := zA (below_step (bB_ HB) hb)
               have n3_ := zA (hbox)
               have n4_ := zA ((by rw [hg]; exact (zT (bB_ HB)) : w.heap.size ≤ gb253))
               have n5_ := zA ((by rw [hg]; exact (zT (bB_ HB)) : w.heap.size ≤ gb253))
               have n6_ := zA ((by rw [hg]; exact Nat.ne_of_lt (blk_lt (g := gb241) (o := .cells #[.int .i64 a0_0, .slice (some ad252) l0_1.length c0_1] 25 (0, 0)) (bA_ BK241)) : gb241 ≠ gb253))
               have n7_ := zA ((by rw [hg]; exact Nat.ne_of_gt (blk_lt (g := gb241) (o := .cells #[.int .i64 a0_0, .slice (some ad252) l0_1.length c0_1] 25 (0, 0)) (bA_ BK241)) : gb253 ≠ gb241))
               clear HO_8
               clear BK241
               clear HB
               have HO_8 := n0_
               have BK241 := n1_
               have HB := n2_
               have BK253 := n3_
               have GW253 := n4_
               have GE253 := n5_
               have NB241_253 := n6_
               have NB253_241 := n7_
               clear n0_ n1_ n2_ n3_ n4_ n5_ n6_ n7_
               clear hb hbox hg
               refine hK.out _ _ ⟨(blk_cell BK241.out 0).trans rfl, (blk_cell BK241.out 1).trans rfl, (hb_ HB.out hw251_0), (hb_ HB.out hw252_0), (hb_ HB.out hw252_1), (hb_ HB.out hw252_2), (hb_ HB.out hw252_3)⟩ (fun hHeld => ?_)
               clear hK K
               refine norm_ (a' := ?_) ?_ ?_
               rotate_left
               ·show Act.put _ (some 11) _ = _
                simp only [Act.put, zB, zC, zD, i64_w, i32_w]
                rfl
               refine one_ (i := 9) (N := none) #[true, true, true, true, true, true, true, true, true, true] rfl rfl (one_of HT_.out (by kernel_rfl)) (by decide) (fun K hK => ?_)
               have hs61 : w60.cell? ⟨gb253, 0, none⟩ = some (.int .i64 0) := (blk_cell BK253.out 0).trans rfl
               have hfs61 := blk_frozen BK253.out 0
               have hns61_0 := NB241_253.out
               have hms61_0 := NB253_241.out
               have hs62 : w60.cell? ⟨gb253, 1, none⟩ = some (.int .i64 0) := (blk_cell BK253.out 1).trans rfl
               have hfs62 := blk_frozen BK253.out 1
               have hns62_0 := NB241_253.out
               have hms62_0 := NB253_241.out
               have hs63 : w60.cell? ⟨gb253, 2, none⟩ = some (.int .i64 0) := (blk_cell BK253.out 2).trans rfl
               have hfs63 := blk_frozen BK253.out 2
               have hns63_0 := NB241_253.out
               have hms63_0 := NB253_241.out
               have hs64 : w60.cell? ⟨gb253, 3, none⟩ = some (.int .i64 0) := (blk_cell BK253.out 3).trans rfl
               have hfs64 := blk_frozen BK253.out 3
               have hns64_0 := NB241_253.out
               have hms64_0 := NB253_241.out
               refine skip_ (w1 := ?_) (by rfl) rfl ?_ ?_
               rotate_left
               ·go_simp
                rfl
               refine hK.out _ _ ⟨((cell_far (p := ⟨gb253, _, none⟩) NB241_253.out _).trans (((cell_far (p := ⟨gb253, _, none⟩) NB241_253.out _).trans (((cell_far (p := ⟨gb253, _, none⟩) NB241_253.out _).trans (((cell_far (p := ⟨gb253, _, none⟩) NB241_253.out _).trans (hHeld.1)))))))), ((cell_far (p := ⟨gb253, _, none⟩) NB241_253.out _).trans (((cell_far (p := ⟨gb253, _, none⟩) NB241_253.out _).trans (((cell_far (p := ⟨gb253, _, none⟩) NB241_253.out _).trans (((cell_far (p := ⟨gb253, _, none⟩) NB241_253.out _).trans (hHeld.2.1)))))))), ((cell_far (p := ⟨gb253, _, none⟩) (by first | exact nbA_ hw251_0 GW253.out | exact nbB_ hw251_0 GW253.out | exact nbC_ hw251_0 GW253.out | exact nbD_ hw251_0 GW253.out) _).trans (((cell_far (p := ⟨gb253, _, none⟩) (by first | exact nbA_ hw251_0 GW253.out | exact nbB_ hw251_0 GW253.out | exact nbC_ hw251_0 GW253.out | exact nbD_ hw251_0 GW253.out) _).trans (((cell_far (p := ⟨gb253, _, none⟩) (by first | exact nbA_ hw251_0 GW253.out | exact nbB_ hw251_0 GW253.out | exact nbC_ hw251_0 GW253.out | exact nbD_ hw251_0 GW253.out) _).trans (((cell_far (p := ⟨gb253, _, none⟩) (by first | exact nbA_ hw251_0 GW253.out | exact nbB_ hw251_0 GW253.out | exact nbC_ hw251_0 GW253.out | exact nbD_ hw251_0 GW253.out) _).trans (hHeld.2.2.1)))))))), ((cell_far (p := ⟨gb253, _, none⟩) (by first | exact nbA_ hw252_0 GW253.out | exact nbB_ hw252_0 GW253.out | exact nbC_ hw252_0 GW253.out | exact nbD_ hw252_0 GW253.out) _).trans (((cell_far (p := ⟨gb253, _, none⟩) (by first | exact nbA_ hw252_0 GW253.out | exact nbB_ hw252_0 GW253.out | exact nbC_ hw252_0 GW253.out | exact nbD_ hw252_0 GW253.out) _).trans (((cell_far (p := ⟨gb253, _, none⟩) (by first | exact nbA_ hw252_0 GW253.out | exact nbB_ hw252_0 GW253.out | exact nbC_ hw252_0 GW253.out | exact nbD_ hw252_0 GW253.out) _).trans (((cell_far (p := ⟨gb253, _, none⟩) (by first | exact nbA_ hw252_0 GW253.out | exact nbB_ hw252_0 GW253.out | exact nbC_ hw252_0 GW253.out | exact nbD_ hw252_0 GW253.out) _).trans (hHeld.2.2.2.1)))))))), ((cell_far (p := ⟨gb253, _, none⟩) (by first | exact nbA_ hw252_1 GW253.out | exact nbB_ hw252_1 GW253.out | exact nbC_ hw252_1 GW253.out | exact nbD_ hw252_1 GW253.out) _).trans (((cell_far (p := ⟨gb253, _, none⟩) (by first | exact nbA_ hw252_1 GW253.out | exact nbB_ hw252_1 GW253.out | exact nbC_ hw252_1 GW253.out | exact nbD_ hw252_1 GW253.out) _).trans (((cell_far (p := ⟨gb253, _, none⟩) (by first | exact nbA_ hw252_1 GW253.out | exact nbB_ hw252_1 GW253.out | exact nbC_ hw252_1 GW253.out | exact nbD_ hw252_1 GW253.out) _).trans (((cell_far (p := ⟨gb253, _, none⟩) (by first | exact nbA_ hw252_1 GW253.out | exact nbB_ hw252_1 GW253.out | exact nbC_ hw252_1 GW253.out | exact nbD_ hw252_1 GW253.out) _).trans (hHeld.2.2.2.2.1)))))))), ((cell_far (p := ⟨gb253, _, none⟩) (by first | exact nbA_ hw252_2 GW253.out | exact nbB_ hw252_2 GW253.out | exact nbC_ hw252_2 GW253.out | exact nbD_ hw252_2 GW253.out) _).trans (((cell_far (p := ⟨gb253, _, none⟩) (by first | exact nbA_ hw252_2 GW253.out | exact nbB_ hw252_2 GW253.out | exact nbC_ hw252_2 GW253.out | exact nbD_ hw252_2 GW253.out) _).trans (((cell_far (p := ⟨gb253, _, none⟩) (by first | exact nbA_ hw252_2 GW253.out | exact nbB_ hw252_2 GW253.out | exact nbC_ hw252_2 GW253.out | exact nbD_ hw252_2 GW253.out) _).trans (((cell_far (p := ⟨gb253, _, none⟩) (by first | exact nbA_ hw252_2 GW253.out | exact nbB_ hw252_2 GW253.out | exact nbC_ hw252_2 GW253.out | exact nbD_ hw252_2 GW253.out) _).trans (hHeld.2.2.2.2.2.1)))))))), ((cell_far (p := ⟨gb253, _, none⟩) (by first | exact nbA_ hw252_3 GW253.out | exact nbB_ hw252_3 GW253.out | exact nbC_ hw252_3 GW253.out | exact nbD_ hw252_3 GW253.out) _).trans (((cell_far (p := ⟨gb253, _, none⟩) (by first | exact nbA_ hw252_3 GW253.out | exact nbB_ hw252_3 GW253.out | exact nbC_ hw252_3 GW253.out | exact nbD_ hw252_3 GW253.out) _).trans (((cell_far (p := ⟨gb253, _, none⟩) (by first | exact nbA_ hw252_3 GW253.out | exact nbB_ hw252_3 GW253.out | exact nbC_ hw252_3 GW253.out | exact nbD_ hw252_3 GW253.out) _).trans (((cell_far (p := ⟨gb253, _, none⟩) (by first | exact nbA_ hw252_3 GW253.out | exact nbB_ hw252_3 GW253.out | exact nbC_ hw252_3 GW253.out | exact nbD_ hw252_3 GW253.out) _).trans (hHeld.2.2.2.2.2.2))))))))⟩ (fun hHeld => ?_)
               clear hK K
               refine done_ (done_of HT_.out (by kernel_rfl)) ?_
               have hnb65 := NB253_241.out
               have hnc65 := NB241_253.out
               have hcz66_0 : w60.cell? ⟨gb253, 0, none⟩ = some (.int .i64 0) := (blk_cell BK253.out 0).trans rfl
               have hcz66_1 : w60.cell? ⟨gb253, 1, none⟩ = some (.int .i64 0) := (blk_cell BK253.out 1).trans rfl
               have hcz66_2 : w60.cell? ⟨gb253, 2, none⟩ = some (.int .i64 0) := (blk_cell BK253.out 2).trans rfl
               have hcz66_3 : w60.cell? ⟨gb253, 3, none⟩ = some (.int .i64 0) := (blk_cell BK253.out 3).trans rfl
               have hfz66_0 := blk_frozen BK253.out 0
               have hfz66_1 := blk_frozen BK253.out 1
               have hfz66_2 := blk_frozen BK253.out 2
               have hfz66_3 := blk_frozen BK253.out 3
               try go_wp2_with (first | ((with_reducible refine gate_dst (N := 117) rfl ?_); refine Kd.R_lit k92 _ 92 ?hg (N := 117) ?hd (xs := ([(⟨(rd_T35 l0_1 (rd l1 x10_2)).f1, (rd_T35 l0_1 (rd l1 x10_2)).f2, 0⟩ : S92), (⟨(rd_T35 l0_1 (rd l1 x10_2)).f2, (rd_T35 l0_1 (rd l1 x10_2)).f1, 0⟩ : S92)] : List (S92))) (inner := [.int .i64 ((rd_T35 l0_1 (rd l1 x10_2)).f1), .int .i64 ((rd_T35 l0_1 (rd l1 x10_2)).f2), .int .i64 0, .int .i64 ((rd_T35 l0_1 (rd l1 x10_2)).f2), .int .i64 ((rd_T35 l0_1 (rd l1 x10_2)).f1), .int .i64 0]) (ok := fun _ => True) (okp := fun _ => True) ?hr ?hp (fun _ hk => hk) trivial (Below.refl _ _) (Nat.le_refl _) (by simp) ?_; (case hd => rfl); (case hg => rfl); (case hr => first | (go_simp; done) | (go_simp; rfl)); (case hp => exact (Reps.c3 (show Kd.M k92 _ _ _ (⟨(rd_T35 l0_1 (rd l1 x10_2)).f1, (rd_T35 l0_1 (rd l1 x10_2)).f2, 0⟩ : S92) [.int .i64 ((rd_T35 l0_1 (rd l1 x10_2)).f1), .int .i64 ((rd_T35 l0_1 (rd l1 x10_2)).f2), .int .i64 0] from (k92_mkM _ _ _ (⟨(rd_T35 l0_1 (rd l1 x10_2)).f1, (rd_T35 l0_1 (rd l1 x10_2)).f2, 0⟩ : S92) )) (Reps.c3 (show Kd.M k92 _ _ _ (⟨(rd_T35 l0_1 (rd l1 x10_2)).f2, (rd_T35 l0_1 (rd l1 x10_2)).f1, 0⟩ : S92) [.int .i64 ((rd_T35 l0_1 (rd l1 x10_2)).f2), .int .i64 ((rd_T35 l0_1 (rd l1 x10_2)).f1), .int .i64 0] from (k92_mkM _ _ _ (⟨(rd_T35 l0_1 (rd l1 x10_2)).f2, (rd_T35 l0_1 (rd l1 x10_2)).f1, 0⟩ : S92) )) (Reps.none _ _)))); intro v270 w67 ho68 hb hg_ hnew_; clear hg_ hnew_; (first | rw [← Ny269.out] at ho68 | (simp only [Int.reduceToNat] at ho68; rw [← Ny269.out] at ho68)); have n0_ := zA (Kd.R_elder' (by (with_reducible repeat (first | apply zF | apply zE | apply zG)); exact (Kd.R_mono (Kd.R_far (p := ⟨gb253, 3, none⟩) (Kd.R_far (p := ⟨gb253, 2, none⟩) (Kd.R_far (p := ⟨gb253, 1, none⟩) (Kd.R_far (p := ⟨gb253, 0, none⟩) (Kd.R_types HO_8.out BK253.out (by decide)) (fun _ hk => hk.2) (.int .i64 ((rd_T35 l0_1 (rd l1 x10_2)).f0))) (fun _ hk => hk.2) (.int .i64 ((rd_T35 l0_1 (rd l1 x10_2)).f1))) (fun _ hk => hk.2) (.int .i64 ((rd_T35 l0_1 (rd l1 x10_2)).f2))) (fun _ hk => hk.2) (.int .i64 ((rd_T35 l0_1 (rd l1 x10_2)).f3))) (fun _ h_ => h_.1))) (Kd.R_base ho68) hb); have n1_ := zA (Kd.R_lower (Kd.R_new' ho68 (Kd.R_lt (by (with_reducible repeat (first | apply zF | apply zE | apply zG)); exact (Kd.R_mono (Kd.R_far (p := ⟨gb253, 3, none⟩) (Kd.R_far (p := ⟨gb253, 2, none⟩) (Kd.R_far (p := ⟨gb253, 1, none⟩) (Kd.R_far (p := ⟨gb253, 0, none⟩) (Kd.R_types HO_8.out BK253.out (by decide)) (fun _ hk => hk.2) (.int .i64 ((rd_T35 l0_1 (rd l1 x10_2)).f0))) (fun _ hk => hk.2) (.int .i64 ((rd_T35 l0_1 (rd l1 x10_2)).f1))) (fun _ hk => hk.2) (.int .i64 ((rd_T35 l0_1 (rd l1 x10_2)).f2))) (fun _ hk => hk.2) (.int .i64 ((rd_T35 l0_1 (rd l1 x10_2)).f3))) (fun _ h_ => h_.1))))) (zT (bB_ HB))); have n2_ := zA (zU (g := gb241) (o := .cells #[.int .i64 a0_0, .slice (some ad252) l0_1.length c0_1] 25 (0, 0)) (bD_ BK241) hb); have n3_ := zA (zU (g := gb253) (o := .cells #[.int .i64 ((rd_T35 l0_1 (rd l1 x10_2)).f0), .int .i64 ((rd_T35 l0_1 (rd l1 x10_2)).f1), .int .i64 ((rd_T35 l0_1 (rd l1 x10_2)).f2), .int .i64 ((rd_T35 l0_1 (rd l1 x10_2)).f3)] 35 (0, 0)) (by (with_reducible repeat (first | refine zM ?_ _ | refine zN ?_ | refine zO ?_ _)); refine blk_put (cs := #[.int .i64 ((rd_T35 l0_1 (rd l1 x10_2)).f0), .int .i64 ((rd_T35 l0_1 (rd l1 x10_2)).f1), .int .i64 ((rd_T35 l0_1 (rd l1 x10_2)).f2), .int .i64 0]) ?_ 3 _ rfl; (with_reducible repeat (first | refine zM ?_ _ | refine zN ?_ | refine zO ?_ _)); refine blk_put (cs := #[.int .i64 ((rd_T35 l0_1 (rd l1 x10_2)).f0), .int .i64 ((rd_T35 l0_1 (rd l1 x10_2)).f1), .int .i64 0, .int .i64 0]) ?_ 2 _ rfl; (with_reducible repeat (first | refine zM ?_ _ | refine zN ?_ | refine zO ?_ _)); refine blk_put (cs := #[.int .i64 ((rd_T35 l0_1 (rd l1 x10_2)).f0), .int .i64 0, .int .i64 0, .int .i64 0]) ?_ 1 _ rfl; (with_reducible repeat (first | refine zM ?_ _ | refine zN ?_ | refine zO ?_ _)); refine blk_put (cs := #[.int .i64 0, .int .i64 0, .int .i64 0, .int .i64 0]) ?_ 0 _ rfl; (with_reducible repeat (first | refine zM ?_ _ | refine zN ?_ | refine zO ?_ _)); exact BK253.out) hb); have n4_ := zA (below_step (bB_ HB) hb); clear HO_8; clear BK241; clear BK253; clear HB; have HO_8 := n0_; have HO271 := n1_; have BK241 := n2_; have BK253 := n3_; have HB := n4_; clear n0_ n1_ n2_ n3_ n4_; clear hb ho68; obtain ⟨Ao70, co70, eo70⟩ := Kd.R_slice HO271.out; subst eo70) | ((with_reducible refine gate_builtin (b := .append) (xs := #[.tmp 106, .tmp 117]) rfl ?_); at_builtin; refine Kd.R_append_rows k92 (w0 := w) w.heap.size rfl (.tmp 106) (.tmp 117) 89 92 (.agg #[(.int .i64 0), (.int .i64 0), (.int .i64 0)]) 24 rfl Try.underlying89 info92 rfl (by decide) (by omega) u8 x8_2 y269 _ _ _ (fun k_ => some k_ ≠ (.slice Ao70 y269.length co70 : Value).ownBlock) (fun _ => False) rfl rfl ?aO ?aR (fun _ _ h => h) (fun _ h => h.elim) ?aF ?aB ?aS ?aL ?_; (case aR => repeat (first | exact (zK HO271.out).2.2 | (with_reducible refine zI ?_ _) | (with_reducible refine zH ?_ _) | (with_reducible refine zJ ?_))); (case aB => exact (bB_ HB)); (case aF => exact (fun k_ hk => Kd.fresh' (Kd.R_lt (bC_ HO271)) k_ hk)); (case aO => exact (by (with_reducible repeat (first | apply zF | apply zE | apply zG)); exact Kd.R_mono HO_8.out (fun _ hk => hk.2))); (case aS => exact (zT (bB_ HB))); (case aL => have := LMc58.out; omega); intro v273 w69 ho hb hg hat; rw [← Ny272.out] at ho; have n0_ := zA (blk_grown (g := gb241) (o := .cells #[.int .i64 a0_0, .slice (some ad252) l0_1.length c0_1] 25 (0, 0)) (bA_ BK241) hg (Kd.R_ne HO_8.out BK241.out (by decide))); have n1_ := zA (blk_grown (g := gb253) (o := .cells #[.int .i64 ((rd_T35 l0_1 (rd l1 x10_2)).f0), .int .i64 ((rd_T35 l0_1 (rd l1 x10_2)).f1), .int .i64 ((rd_T35 l0_1 (rd l1 x10_2)).f2), .int .i64 ((rd_T35 l0_1 (rd l1 x10_2)).f3)] 35 (0, 0)) (bA_ BK253) hg (Kd.R_ne HO_8.out BK253.out (by decide))); have n2_ := zA (Kd.R_after (ok := (fun _ => True)) (bC_ HO271) hg hat); have n3_ := zA (hb); have n4_ := zA (ho); clear BK241; clear BK253; clear HO271; clear HB; clear HO_8; have BK241 := n0_; have BK253 := n1_; have HO271 := n2_; have HB := n3_; have HO274 := n4_; clear n0_ n1_ n2_ n3_ n4_; clear ho hb hg hat))
               go_roundg k2
               case measure => have := HK1.out; have := HK2.out; omega
               case rel => exact ⟨(y272), (wrap64 (x10_2 + 1)), (by first | rfl | (simp; done) | (simp [*]; done)), H', ⟨by have := HK1.out; have := HK2.out; omega⟩, ⟨by (with_reducible repeat (first | apply zF | apply zE | apply zG)); exact Kd.R_mono HO274.out (fun _ hk => trivial)⟩, ⟨bA_ BK241⟩, ⟨bB_ HB⟩⟩
              ·rw [if_neg c58] at H
               exact absurd H (by simp)
             ·rw [if_neg c57] at H
              have c57b0 : (((rd_T35 l0_1 (rd l1 x10_2)).f0) == (wrap64 (7 + a2))) = false := beq_eq_false_iff_ne.mpr c57
              have c57b1 : (((rd_T35 l0_1 (rd l1 x10_2)).f0) != (wrap64 (7 + a2))) = true := bne_iff_ne.mpr c57
              by_cases c71 : ((rd_T35 l0_1 (rd l1 x10_2)).f0) = 9
              ·rw [if_pos c71] at H
               have c71b0 : (((rd_T35 l0_1 (rd l1 x10_2)).f0) == 9) = true := beq_iff_eq.mpr c71
               have c71b1 : (((rd_T35 l0_1 (rd l1 x10_2)).f0) != 9) = false := bne_eq_false_iff_eq.mpr c71
               clear c71
               obtain ⟨y275, hy275⟩ : ∃ y_ : List (S92), y_ = (([(⟨(rd_T35 l0_1 (rd l1 x10_2)).f1, (rd_T35 l0_1 (rd l1 x10_2)).f2, 0⟩ : S92), (⟨(rd_T35 l0_1 (rd l1 x10_2)).f2, (rd_T35 l0_1 (rd l1 x10_2)).f1, 0⟩ : S92)] : List (S92))) := ⟨_, rfl⟩
               replace H : (if x8_2.length + y275.length < 5864062014805 then (spec_l04Steps.l1 k2 l1 a2 a0_0 (x8_2 ++ y275) (wrap64 (x10_2 + 1)) a0_0 l0_1) else (none)) = some r := by first | (rw [hy275]; with_reducible exact H) | (have H2_ := (Option.bind_some _ _).symm.trans H; rw [hy275]; with_reducible exact H2_) | (have H2_ := (Option.bind_some _ _).symm.trans H; with_reducible exact H2_) | with_reducible exact H | (rw [hy275]; exact H) | exact H
               have Ny275 := zA hy275
               clear hy275
               by_cases c72 : x8_2.length + y275.length < 5864062014805
               ·rw [if_pos c72] at H
                have LMc72 := zA c72
                clear c72
                obtain ⟨y278, hy278⟩ : ∃ y_ : List (S92), y_ = (x8_2 ++ y275) := ⟨_, rfl⟩
                replace H : (spec_l04Steps.l1 k2 l1 a2 a0_0 y278 (wrap64 (x10_2 + 1)) a0_0 l0_1) = some r := by first | (rw [hy278]; with_reducible exact H) | (have H2_ := (Option.bind_some _ _).symm.trans H; rw [hy278]; with_reducible exact H2_) | (have H2_ := (Option.bind_some _ _).symm.trans H; with_reducible exact H2_) | with_reducible exact H | (rw [hy278]; exact H) | exact H
                have Ny278 := zA hy278
                clear hy278
                have H' := zA H
                clear H
                try go_wp2
                have n0_ := zA (zG HO_8.out)
                have n1_ := zA (zN BK241.out)
                have n2_ := zA (zQ HB.out)
                clear HO_8
                clear BK241
                clear HB
                have HO_8 := n0_
                have BK241 := n1_
                have HB := n2_
                clear n0_ n1_ n2_
                have p251 : 0 ≤ (x10_2 : Int) := of_decide_eq_true (by first | (with_reducible assumption) | assumption)
                have q251 : x10_2 < (l1.length : Int) := of_decide_eq_true (by first | (with_reducible assumption) | assumption)
                obtain ⟨ad251, e251, hx251_0⟩ := Kd.at_int HR1.out x10_2 p251 q251
                have hw251_0 := hx251_0
                cases e251
                replace hx251_0 := hb_ HB.out hx251_0
                replace p251 := eq_true p251
                replace q251 := eq_true q251
                have p252 : 0 ≤ ((rd l1 x10_2) : Int) := of_decide_eq_true (by first | (with_reducible assumption) | assumption)
                have q252 : (rd l1 x10_2) < (l0_1.length : Int) := of_decide_eq_true (by first | (with_reducible assumption) | assumption)
                obtain ⟨ad252, e252, hx252_0, hx252_1, hx252_2, hx252_3⟩ := at_T35 HR0_1.out (rd l1 x10_2) p252 q252
                have hw252_3 := hx252_3
                have hw252_2 := hx252_2
                have hw252_1 := hx252_1
                have hw252_0 := hx252_0
                cases e252
                replace hx252_0 := hb_ HB.out hx252_0
                replace hx252_1 := hb_ HB.out hx252_1
                replace hx252_2 := hb_ HB.out hx252_2
                replace hx252_3 := hb_ HB.out hx252_3
                replace p252 := eq_true p252
                replace q252 := eq_true q252
                refine start_ (n := 10) (S := fun w' => w'.cell? ⟨gb241, 0, none⟩ = some (.int .i64 a0_0) ∧ w'.cell? ⟨gb241, 1, none⟩ = some (.slice (some ad252) l0_1.length c0_1) ∧ w'.cell? (ad251.add (x10_2).toNat) = some (.int .i64 (rd l1 x10_2)) ∧ w'.cell? (ad252.add (((rd l1 x10_2)).toNat * 4)) = some (.int .i64 ((rd_T35 l0_1 (rd l1 x10_2)).f0)) ∧ w'.cell? ⟨(ad252.add (((rd l1 x10_2)).toNat * 4)).block, (ad252.add (((rd l1 x10_2)).toNat * 4)).off + 1, none⟩ = some (.int .i64 ((rd_T35 l0_1 (rd l1 x10_2)).f1)) ∧ w'.cell? ⟨(ad252.add (((rd l1 x10_2)).toNat * 4)).block, (ad252.add (((rd l1 x10_2)).toNat * 4)).off + 2, none⟩ = some (.int .i64 ((rd_T35 l0_1 (rd l1 x10_2)).f2)) ∧ w'.cell? ⟨(ad252.add (((rd l1 x10_2)).toNat * 4)).block, (ad252.add (((rd l1 x10_2)).toNat * 4)).off + 3, none⟩ = some (.int .i64 ((rd_T35 l0_1 (rd l1 x10_2)).f3))) (ds := []) #[false, false, false, false, false, false, false, false, false, false] (by kernel_rfl) rfl rfl ⟨(blk_cell BK241.out 0).trans rfl, (blk_cell BK241.out 1).trans rfl, (hb_ HB.out hw251_0), (hb_ HB.out hw252_0), (hb_ HB.out hw252_1), (hb_ HB.out hw252_2), (hb_ HB.out hw252_3)⟩ (fun hHeld => ?_); refine with_tabW spec_l04Steps.tab10 spec_l04Steps.bits10 (fun HT_ HW_ => ?_)
                generalize wr.drew = w73 at HO_8 BK241 HB hx251_0 hx252_0 hx252_1 hx252_2 hx252_3 hHeld ⊢
                refine pure_ (i := 0) (N := some 35) (v := ?_) (a' := ?_) #[true, false, false, false, false, false, false, false, false, false] rfl rfl (any_of HT_.out (by kernel_rfl)) (fun _ _ _ h => h) (Or.inl ⟨by rfl, ?_⟩) ?_ ?_
                rotate_left
                ·intro w'
                 go_simp
                 with_reducible rfl
                rotate_left
                ·simp only [Act.put, zB, zC, zD, i64_w, i32_w]
                 rfl
                refine pure_ (i := 2) (N := some 37) (v := ?_) (a' := ?_) #[true, false, true, false, false, false, false, false, false, false] rfl rfl (any_of HT_.out (by kernel_rfl)) (fun _ _ _ h => h) (Or.inl ⟨by rfl, ?_⟩) ?_ ?_
                rotate_left
                ·intro w'
                 go_simp
                 with_reducible rfl
                rotate_left
                ·simp only [Act.put, zB, zC, zD, i64_w, i32_w]
                 rfl
                refine pure_ (i := 3) (N := some 38) (v := ?_) (a' := ?_) #[true, false, true, true, false, false, false, false, false, false] rfl rfl (any_of HT_.out (by kernel_rfl)) (fun _ _ _ h => h) (Or.inl ⟨by rfl, ?_⟩) ?_ ?_
                rotate_left
                ·intro w'
                 go_simp
                 with_reducible rfl
                rotate_left
                ·simp only [Act.put, zB, zC, zD, i64_w, i32_w]
                 rfl
                refine pure_ (i := 4) (N := some 39) (v := ?_) (a' := ?_) #[true, false, true, true, true, false, false, false, false, false] rfl rfl (any_of HT_.out (by kernel_rfl)) (fun _ _ _ h => h) (Or.inl ⟨by rfl, ?_⟩) ?_ ?_
                rotate_left
                ·intro w'
                 go_simp
                 with_reducible rfl
                rotate_left
                ·simp only [Act.put, zB, zC, zD, i64_w, i32_w]
                 rfl
                refine take_ (i := 1) (N := some 36) (v := ?_) (a' := ?_) #[true, true, true, true, true, false, false, false, false, false] rfl rfl (take_ofW HT_.out HW_.out (by kernel_rfl)) (fun _ _ _ h => h) (Or.inl ⟨by rfl, ?_⟩) hHeld ?_ ?_
                rotate_left
                ·rintro w' ⟨s0, s1, s2, s3, s4, s5, s6⟩
                 go_simp
                 with_reducible rfl
                rotate_left
                ·simp only [Act.put, zB, zC, zD, i64_w, i32_w]
                 rfl
                refine take_ (i := 5) (N := some 40) (v := ?_) (a' := ?_) #[true, true, true, true, true, true, false, false, false, false] rfl rfl (take_ofW HT_.out HW_.out (by kernel_rfl)) (fun _ _ _ h => h) (Or.inl ⟨by rfl, ?_⟩) hHeld ?_ ?_
                rotate_left
                ·rintro w' ⟨s0, s1, s2, s3, s4, s5, s6⟩
                 go_simp
                 with_reducible rfl
                rotate_left
                ·simp only [Act.put, zB, zC, zD, i64_w, i32_w]
                 rfl
                refine pure_ (i := 6) (N := some 41) (v := ?_) (a' := ?_) #[true, true, true, true, true, true, true, false, false, false] rfl rfl (any_of HT_.out (by kernel_rfl)) (fun _ _ _ h => h) (Or.inl ⟨by rfl, ?_⟩) ?_ ?_
                rotate_left
                ·intro w'
                 go_simp
                 with_reducible rfl
                rotate_left
                ·simp only [Act.put, zB, zC, zD, i64_w, i32_w]
                 rfl
                refine take_ (i := 7) (N := some 42) (v := ?_) (a' := ?_) #[true, true, true, true, true, true, true, true, false, false] rfl rfl (take_ofW HT_.out HW_.out (by kernel_rfl)) (fun _ _ _ h => h) (Or.inl ⟨by rfl, ?_⟩) hHeld ?_ ?_
                rotate_left
                ·rintro w' ⟨s0, s1, s2, s3, s4, s5, s6⟩
                 go_simp
                 with_reducible rfl
                rotate_left
                ·simp only [Act.put, zB, zC, zD, i64_w, i32_w]
                 rfl
                refine one_ (i := 8) (N := some 11) #[true, true, true, true, true, true, true, true, true, false] rfl rfl (one_of HT_.out (by kernel_rfl)) (by decide) (fun K hK => ?_)
                refine box_step ?hg (N := 11) ?hd (cs := #[.int .i64 0, .int .i64 0, .int .i64 0, .int .i64 0]) (t := 35) ?hr ?_; (case hd => rfl); (case hg => rfl); (case hr => first | (go_simp; done) | (go_simp; rfl))
                intro gb253 hg w74 hbox hb
                have n0_ := zA (zL (bC_ HO_8) hb)
                have n1_ := zA (zU (g := gb241) (o := .cells #[.int .i64 a0_0, .slice (some ad252) l0_1.length c0_1] 25 (0, 0)) (bA_ BK241) hb)
                have n2_ := zA (below_step (bB_ HB) hb)
                have n3_ := zA (hbox)
                have n4_ := zA ((by rw [hg]; exact (zT (bB_ HB)) : w.heap.size ≤ gb253))
                have n5_ := zA ((by rw [hg]; exact (zT (bB_ HB)) : w.heap.size ≤ gb253))
                have n6_ := zA ((by rw [hg]; exact Nat.ne_of_lt (blk_lt (g := gb241) (o := .cells #[.int .i64 a0_0, .slice (some ad252) l0_1.length c0_1] 25 (0, 0)) (bA_ BK241)) : gb241 ≠ gb253))
                have n7_ := zA ((by rw [hg]; exact Nat.ne_of_gt (blk_lt (g := gb241) (o := .cells #[.int .i64 a0_0, .slice (some ad252) l0_1.length c0_1] 25 (0, 0)) (bA_ BK241)) : gb253 ≠ gb241))
                clear HO_8
                clear BK241
                clear HB
                have HO_8 := n0_
                have BK241 := n1_
                have HB := n2_
                have BK253 := n3_
                have GW253 := n4_
                have GE253 := n5_
                have NB241_253 := n6_
                have NB253_241 := n7_
                clear n0_ n1_ n2_ n3_ n4_ n5_ n6_ n7_
                clear hb hbox hg
                refine hK.out _ _ ⟨(blk_cell BK241.out 0).trans rfl, (blk_cell BK241.out 1).trans rfl, (hb_ HB.out hw251_0), (hb_ HB.out hw252_0), (hb_ HB.out hw252_1), (hb_ HB.out hw252_2), (hb_ HB.out hw252_3)⟩ (fun hHeld => ?_)
                clear hK K
                refine norm_ (a' := ?_) ?_ ?_
                rotate_left
                ·show Act.put _ (some 11) _ = _
                 simp only [Act.put, zB, zC, zD, i64_w, i32_w]
                 rfl
                refine one_ (i := 9) (N := none) #[true, true, true, true, true, true, true, true, true, true] rfl rfl (one_of HT_.out (by kernel_rfl)) (by decide) (fun K hK => ?_)
                have hs75 : w74.cell? ⟨gb253, 0, none⟩ = some (.int .i64 0) := (blk_cell BK253.out 0).trans rfl
                have hfs75 := blk_frozen BK253.out 0
                have hns75_0 := NB241_253.out
                have hms75_0 := NB253_241.out
                have hs76 : w74.cell? ⟨gb253, 1, none⟩ = some (.int .i64 0) := (blk_cell BK253.out 1).trans rfl
                have hfs76 := blk_frozen BK253.out 1
                have hns76_0 := NB241_253.out
                have hms76_0 := NB253_241.out
                have hs77 : w74.cell? ⟨gb253, 2, none⟩ = some (.int .i64 0) := (blk_cell BK253.out 2).trans rfl
                have hfs77 := blk_frozen BK253.out 2
                have hns77_0 := NB241_253.out
                have hms77_0 := NB253_241.out
                have hs78 : w74.cell? ⟨gb253, 3, none⟩ = some (.int .i64 0) := (blk_cell BK253.out 3).trans rfl
                have hfs78 := blk_frozen BK253.out 3
                have hns78_0 := NB241_253.out
                have hms78_0 := NB253_241.out
                refine skip_ (w1 := ?_) (by rfl) rfl ?_ ?_
                rotate_left
                ·go_simp
                 rfl
                refine hK.out _ _ ⟨((cell_far (p := ⟨gb253, _, none⟩) NB241_253.out _).trans (((cell_far (p := ⟨gb253, _, none⟩) NB241_253.out _).trans (((cell_far (p := ⟨gb253, _, none⟩) NB241_253.out _).trans (((cell_far (p := ⟨gb253, _, none⟩) NB241_253.out _).trans (hHeld.1)))))))), ((cell_far (p := ⟨gb253, _, none⟩) NB241_253.out _).trans (((cell_far (p := ⟨gb253, _, none⟩) NB241_253.out _).trans (((cell_far (p := ⟨gb253, _, none⟩) NB241_253.out _).trans (((cell_far (p := ⟨gb253, _, none⟩) NB241_253.out _).trans (hHeld.2.1)))))))), ((cell_far (p := ⟨gb253, _, none⟩) (by first | exact nbA_ hw251_0 GW253.out | exact nbB_ hw251_0 GW253.out | exact nbC_ hw251_0 GW253.out | exact nbD_ hw251_0 GW253.out) _).trans (((cell_far (p := ⟨gb253, _, none⟩) (by first | exact nbA_ hw251_0 GW253.out | exact nbB_ hw251_0 GW253.out | exact nbC_ hw251_0 GW253.out | exact nbD_ hw251_0 GW253.out) _).trans (((cell_far (p := ⟨gb253, _, none⟩) (by first | exact nbA_ hw251_0 GW253.out | exact nbB_ hw251_0 GW253.out | exact nbC_ hw251_0 GW253.out | exact nbD_ hw251_0 GW253.out) _).trans (((cell_far (p := ⟨gb253, _, none⟩) (by first | exact nbA_ hw251_0 GW253.out | exact nbB_ hw251_0 GW253.out | exact nbC_ hw251_0 GW253.out | exact nbD_ hw251_0 GW253.out) _).trans (hHeld.2.2.1)))))))), ((cell_far (p := ⟨gb253, _, none⟩) (by first | exact nbA_ hw252_0 GW253.out | exact nbB_ hw252_0 GW253.out | exact nbC_ hw252_0 GW253.out | exact nbD_ hw252_0 GW253.out) _).trans (((cell_far (p := ⟨gb253, _, none⟩) (by first | exact nbA_ hw252_0 GW253.out | exact nbB_ hw252_0 GW253.out | exact nbC_ hw252_0 GW253.out | exact nbD_ hw252_0 GW253.out) _).trans (((cell_far (p := ⟨gb253, _, none⟩) (by first | exact nbA_ hw252_0 GW253.out | exact nbB_ hw252_0 GW253.out | exact nbC_ hw252_0 GW253.out | exact nbD_ hw252_0 GW253.out) _).trans (((cell_far (p := ⟨gb253, _, none⟩) (by first | exact nbA_ hw252_0 GW253.out | exact nbB_ hw252_0 GW253.out | exact nbC_ hw252_0 GW253.out | exact nbD_ hw252_0 GW253.out) _).trans (hHeld.2.2.2.1)))))))), ((cell_far (p := ⟨gb253, _, none⟩) (by first | exact nbA_ hw252_1 GW253.out | exact nbB_ hw252_1 GW253.out | exact nbC_ hw252_1 GW253.out | exact nbD_ hw252_1 GW253.out) _).trans (((cell_far (p := ⟨gb253, _, none⟩) (by first | exact nbA_ hw252_1 GW253.out | exact nbB_ hw252_1 GW253.out | exact nbC_ hw252_1 GW253.out | exact nbD_ hw252_1 GW253.out) _).trans (((cell_far (p := ⟨gb253, _, none⟩) (by first | exact nbA_ hw252_1 GW253.out | exact nbB_ hw252_1 GW253.out | exact nbC_ hw252_1 GW253.out | exact nbD_ hw252_1 GW253.out) _).trans (((cell_far (p := ⟨gb253, _, none⟩) (by first | exact nbA_ hw252_1 GW253.out | exact nbB_ hw252_1 GW253.out | exact nbC_ hw252_1 GW253.out | exact nbD_ hw252_1 GW253.out) _).trans (hHeld.2.2.2.2.1)))))))), ((cell_far (p := ⟨gb253, _, none⟩) (by first | exact nbA_ hw252_2 GW253.out | exact nbB_ hw252_2 GW253.out | exact nbC_ hw252_2 GW253.out | exact nbD_ hw252_2 GW253.out) _).trans (((cell_far (p := ⟨gb253, _, none⟩) (by first | exact nbA_ hw252_2 GW253.out | exact nbB_ hw252_2 GW253.out | exact nbC_ hw252_2 GW253.out | exact nbD_ hw252_2 GW253.out) _).trans (((cell_far (p := ⟨gb253, _, none⟩) (by first | exact nbA_ hw252_2 GW253.out | exact nbB_ hw252_2 GW253.out | exact nbC_ hw252_2 GW253.out | exact nbD_ hw252_2 GW253.out) _).trans (((cell_far (p := ⟨gb253, _, none⟩) (by first | exact nbA_ hw252_2 GW253.out | exact nbB_ hw252_2 GW253.out | exact nbC_ hw252_2 GW253.out | exact nbD_ hw252_2 GW253.out) _).trans (hHeld.2.2.2.2.2.1)))))))), ((cell_far (p := ⟨gb253, _, none⟩) (by first | exact nbA_ hw252_3 GW253.out | exact nbB_ hw252_3 GW253.out | exact nbC_ hw252_3 GW253.out | exact nbD_ hw252_3 GW253.out) _).trans (((cell_far (p := ⟨gb253, _, none⟩) (by first | exact nbA_ hw252_3 GW253.out | exact nbB_ hw252_3 GW253.out | exact nbC_ hw252_3 GW253.out | exact nbD_ hw252_3 GW253.out) _).trans (((cell_far (p := ⟨gb253, _, none⟩) (by first | exact nbA_ hw252_3 GW253.out | exact nbB_ hw252_3 GW253.out | exact nbC_ hw252_3 GW253.out | exact nbD_ hw252_3 GW253.out) _).trans (((cell_far (p := ⟨gb253, _, none⟩) (by first | exact nbA_ hw252_3 GW253.out | exact nbB_ hw252_3 GW253.out | exact nbC_ hw252_3 GW253.out | exact nbD_ hw252_3 GW253.out) _).trans (hHeld.2.2.2.2.2.2))))))))⟩ (fun hHeld => ?_)
                clear hK K
                refine done_ (done_of HT_.out (by kernel_rfl)) ?_
                have hnb79 := NB253_241.out
                have hnc79 := NB241_253.out
                have hcz80_0 : w74.cell? ⟨gb253, 0, none⟩ = some (.int .i64 0) := (blk_cell BK253.out 0).trans rfl
                have hcz80_1 : w74.cell? ⟨gb253, 1, none⟩ = some (.int .i64 0) := (blk_cell BK253.out 1).trans rfl
                have hcz80_2 : w74.cell? ⟨gb253, 2, none⟩ = some (.int .i64 0) := (blk_cell BK253.out 2).trans rfl
                have hcz80_3 : w74.cell? ⟨gb253, 3, none⟩ = some (.int .i64 0) := (blk_cell BK253.out 3).trans rfl
                have hfz80_0 := blk_frozen BK253.out 0
                have hfz80_1 := blk_frozen BK253.out 1
                have hfz80_2 := blk_frozen BK253.out 2
                have hfz80_3 := blk_frozen BK253.out 3
                try go_wp2_with (first | ((with_reducible refine gate_dst (N := 117) rfl ?_); refine Kd.R_lit k92 _ 92 ?hg (N := 117) ?hd (xs := ([(⟨(rd_T35 l0_1 (rd l1 x10_2)).f1, (rd_T35 l0_1 (rd l1 x10_2)).f2, 0⟩ : S92), (⟨(rd_T35 l0_1 (rd l1 x10_2)).f2, (rd_T35 l0_1 (rd l1 x10_2)).f1, 0⟩ : S92)] : List (S92))) (inner := [.int .i64 ((rd_T35 l0_1 (rd l1 x10_2)).f1), .int .i64 ((rd_T35 l0_1 (rd l1 x10_2)).f2), .int .i64 0, .int .i64 ((rd_T35 l0_1 (rd l1 x10_2)).f2), .int .i64 ((rd_T35 l0_1 (rd l1 x10_2)).f1), .int .i64 0]) (ok := fun _ => True) (okp := fun _ => True) ?hr ?hp (fun _ hk => hk) trivial (Below.refl _ _) (Nat.le_refl _) (by simp) ?_; (case hd => rfl); (case hg => rfl); (case hr => first | (go_simp; done) | (go_simp; rfl)); (case hp => exact (Reps.c3 (show Kd.M k92 _ _ _ (⟨(rd_T35 l0_1 (rd l1 x10_2)).f1, (rd_T35 l0_1 (rd l1 x10_2)).f2, 0⟩ : S92) [.int .i64 ((rd_T35 l0_1 (rd l1 x10_2)).f1), .int .i64 ((rd_T35 l0_1 (rd l1 x10_2)).f2), .int .i64 0] from (k92_mkM _ _ _ (⟨(rd_T35 l0_1 (rd l1 x10_2)).f1, (rd_T35 l0_1 (rd l1 x10_2)).f2, 0⟩ : S92) )) (Reps.c3 (show Kd.M k92 _ _ _ (⟨(rd_T35 l0_1 (rd l1 x10_2)).f2, (rd_T35 l0_1 (rd l1 x10_2)).f1, 0⟩ : S92) [.int .i64 ((rd_T35 l0_1 (rd l1 x10_2)).f2), .int .i64 ((rd_T35 l0_1 (rd l1 x10_2)).f1), .int .i64 0] from (k92_mkM _ _ _ (⟨(rd_T35 l0_1 (rd l1 x10_2)).f2, (rd_T35 l0_1 (rd l1 x10_2)).f1, 0⟩ : S92) )) (Reps.none _ _)))); intro v276 w81 ho82 hb hg_ hnew_; clear hg_ hnew_; (first | rw [← Ny275.out] at ho82 | (simp only [Int.reduceToNat] at ho82; rw [← Ny275.out] at ho82)); have n0_ := zA (Kd.R_elder' (by (with_reducible repeat (first | apply zF | apply zE | apply zG)); exact (Kd.R_mono (Kd.R_far (p := ⟨gb253, 3, none⟩) (Kd.R_far (p := ⟨gb253, 2, none⟩) (Kd.R_far (p := ⟨gb253, 1, none⟩) (Kd.R_far (p := ⟨gb253, 0, none⟩) (Kd.R_types HO_8.out BK253.out (by decide)) (fun _ hk => hk.2) (.int .i64 ((rd_T35 l0_1 (rd l1 x10_2)).f0))) (fun _ hk => hk.2) (.int .i64 ((rd_T35 l0_1 (rd l1 x10_2)).f1))) (fun _ hk => hk.2) (.int .i64 ((rd_T35 l0_1 (rd l1 x10_2)).f2))) (fun _ hk => hk.2) (.int .i64 ((rd_T35 l0_1 (rd l1 x10_2)).f3))) (fun _ h_ => h_.1))) (Kd.R_base ho82) hb); have n1_ := zA (Kd.R_lower (Kd.R_new' ho82 (Kd.R_lt (by (with_reducible repeat (first | apply zF | apply zE | apply zG)); exact (Kd.R_mono (Kd.R_far (p := ⟨gb253, 3, none⟩) (Kd.R_far (p := ⟨gb253, 2, none⟩) (Kd.R_far (p := ⟨gb253, 1, none⟩) (Kd.R_far (p := ⟨gb253, 0, none⟩) (Kd.R_types HO_8.out BK253.out (by decide)) (fun _ hk => hk.2) (.int .i64 ((rd_T35 l0_1 (rd l1 x10_2)).f0))) (fun _ hk => hk.2) (.int .i64 ((rd_T35 l0_1 (rd l1 x10_2)).f1))) (fun _ hk => hk.2) (.int .i64 ((rd_T35 l0_1 (rd l1 x10_2)).f2))) (fun _ hk => hk.2) (.int .i64 ((rd_T35 l0_1 (rd l1 x10_2)).f3))) (fun _ h_ => h_.1))))) (zT (bB_ HB))); have n2_ := zA (zU (g := gb241) (o := .cells #[.int .i64 a0_0, .slice (some ad252) l0_1.length c0_1] 25 (0, 0)) (bD_ BK241) hb); have n3_ := zA (zU (g := gb253) (o := .cells #[.int .i64 ((rd_T35 l0_1 (rd l1 x10_2)).f0), .int .i64 ((rd_T35 l0_1 (rd l1 x10_2)).f1), .int .i64 ((rd_T35 l0_1 (rd l1 x10_2)).f2), .int .i64 ((rd_T35 l0_1 (rd l1 x10_2)).f3)] 35 (0, 0)) (by (with_reducible repeat (first | refine zM ?_ _ | refine zN ?_ | refine zO ?_ _)); refine blk_put (cs := #[.int .i64 ((rd_T35 l0_1 (rd l1 x10_2)).f0), .int .i64 ((rd_T35 l0_1 (rd l1 x10_2)).f1), .int .i64 ((rd_T35 l0_1 (rd l1 x10_2)).f2), .int .i64 0]) ?_ 3 _ rfl; (with_reducible repeat (first | refine zM ?_ _ | refine zN ?_ | refine zO ?_ _)); refine blk_put (cs := #[.int .i64 ((rd_T35 l0_1 (rd l1 x10_2)).f0), .int .i64 ((rd_T35 l0_1 (rd l1 x10_2)).f1), .int .i64 0, .int .i64 0]) ?_ 2 _ rfl; (with_reducible repeat (first | refine zM ?_ _ | refine zN ?_ | refine zO ?_ _)); refine blk_put (cs := #[.int .i64 ((rd_T35 l0_1 (rd l1 x10_2)).f0), .int .i64 0, .int .i64 0, .int .i64 0]) ?_ 1 _ rfl; (with_reducible repeat (first | refine zM ?_ _ | refine zN ?_ | refine zO ?_ _)); refine blk_put (cs := #[.int .i64 0, .int .i64 0, .int .i64 0, .int .i64 0]) ?_ 0 _ rfl; (with_reducible repeat (first | refine zM ?_ _ | refine zN ?_ | refine zO ?_ _)); exact BK253.out) hb); have n4_ := zA (below_step (bB_ HB) hb); clear HO_8; clear BK241; clear BK253; clear HB; have HO_8 := n0_; have HO277 := n1_; have BK241 := n2_; have BK253 := n3_; have HB := n4_; clear n0_ n1_ n2_ n3_ n4_; clear hb ho82; obtain ⟨Ao84, co84, eo84⟩ := Kd.R_slice HO277.out; subst eo84) | ((with_reducible refine gate_builtin (b := .append) (xs := #[.tmp 106, .tmp 117]) rfl ?_); at_builtin; refine Kd.R_append_rows k92 (w0 := w) w.heap.size rfl (.tmp 106) (.tmp 117) 89 92 (.agg #[(.int .i64 0), (.int .i64 0), (.int .i64 0)]) 24 rfl Try.underlying89 info92 rfl (by decide) (by omega) u8 x8_2 y275 _ _ _ (fun k_ => some k_ ≠ (.slice Ao84 y275.length co84 : Value).ownBlock) (fun _ => False) rfl rfl ?aO ?aR (fun _ _ h => h) (fun _ h => h.elim) ?aF ?aB ?aS ?aL ?_; (case aR => repeat (first | exact (zK HO277.out).2.2 | (with_reducible refine zI ?_ _) | (with_reducible refine zH ?_ _) | (with_reducible refine zJ ?_))); (case aB => exact (bB_ HB)); (case aF => exact (fun k_ hk => Kd.fresh' (Kd.R_lt (bC_ HO277)) k_ hk)); (case aO => exact (by (with_reducible repeat (first | apply zF | apply zE | apply zG)); exact Kd.R_mono HO_8.out (fun _ hk => hk.2))); (case aS => exact (zT (bB_ HB))); (case aL => have := LMc72.out; omega); intro v279 w83 ho hb hg hat; rw [← Ny278.out] at ho; have n0_ := zA (blk_grown (g := gb241) (o := .cells #[.int .i64 a0_0, .slice (some ad252) l0_1.length c0_1] 25 (0, 0)) (bA_ BK241) hg (Kd.R_ne HO_8.out BK241.out (by decide))); have n1_ := zA (blk_grown (g := gb253) (o := .cells #[.int .i64 ((rd_T35 l0_1 (rd l1 x10_2)).f0), .int .i64 ((rd_T35 l0_1 (rd l1 x10_2)).f1), .int .i64 ((rd_T35 l0_1 (rd l1 x10_2)).f2), .int .i64 ((rd_T35 l0_1 (rd l1 x10_2)).f3)] 35 (0, 0)) (bA_ BK253) hg (Kd.R_ne HO_8.out BK253.out (by decide))); have n2_ := zA (Kd.R_after (ok := (fun _ => True)) (bC_ HO277) hg hat); have n3_ := zA (hb); have n4_ := zA (ho); clear BK241; clear BK253; clear HO277; clear HB; clear HO_8; have BK241 := n0_; have BK253 := n1_; have HO277 := n2_; have HB := n3_; have HO280 := n4_; clear n0_ n1_ n2_ n3_ n4_; clear ho hb hg hat))
                go_roundg k2
                case measure => have := HK1.out; have := HK2.out; omega
                case rel => exact ⟨(y278), (wrap64 (x10_2 + 1)), (by first | rfl | (simp; done) | (simp [*]; done)), H', ⟨by have := HK1.out; have := HK2.out; omega⟩, ⟨by (with_reducible repeat (first | apply zF | apply zE | apply zG)); exact Kd.R_mono HO280.out (fun _ hk => trivial)⟩, ⟨bA_ BK241⟩, ⟨bB_ HB⟩⟩
               ·rw [if_neg c72] at H
                exact absurd H (by simp)
              ·rw [if_neg c71] at H
               have c71b0 : (((rd_T35 l0_1 (rd l1 x10_2)).f0) == 9) = false := beq_eq_false_iff_ne.mpr c71
               have c71b1 : (((rd_T35 l0_1 (rd l1 x10_2)).f0) != 9) = true := bne_iff_ne.mpr c71
               have H' := zA H
               clear H
               try go_wp2
               have n0_ := zA (zG HO_8.out)
               have n1_ := zA (zN BK241.out)
               have n2_ := zA (zQ HB.out)
               clear HO_8
               clear BK241
               clear HB
               have HO_8 := n0_
               have BK241 := n1_
               have HB := n2_
               clear n0_ n1_ n2_
               have p251 : 0 ≤ (x10_2 : Int) := of_decide_eq_true (by first | (with_reducible assumption) | assumption)
               have q251 : x10_2 < (l1.length : Int) := of_decide_eq_true (by first | (with_reducible assumption) | assumption)
               obtain ⟨ad251, e251, hx251_0⟩ := Kd.at_int HR1.out x10_2 p251 q251
               have hw251_0 := hx251_0
               cases e251
               replace hx251_0 := hb_ HB.out hx251_0
               replace p251 := eq_true p251
               replace q251 := eq_true q251
               have p252 : 0 ≤ ((rd l1 x10_2) : Int) := of_decide_eq_true (by first | (with_reducible assumption) | assumption)
               have q252 : (rd l1 x10_2) < (l0_1.length : Int) := of_decide_eq_true (by first | (with_reducible assumption) | assumption)
               obtain ⟨ad252, e252, hx252_0, hx252_1, hx252_2, hx252_3⟩ := at_T35 HR0_1.out (rd l1 x10_2) p252 q252
               have hw252_3 := hx252_3
               have hw252_2 := hx252_2
               have hw252_1 := hx252_1
               have hw252_0 := hx252_0
               cases e252
               replace hx252_0 := hb_ HB.out hx252_0
               replace hx252_1 := hb_ HB.out hx252_1
               replace hx252_2 := hb_ HB.out hx252_2
               replace hx252_3 := hb_ HB.out hx252_3
               replace p252 := eq_true p252
               replace q252 := eq_true q252
               refine start_ (n := 10) (S := fun w' => w'.cell? ⟨gb241, 0, none⟩ = some (.int .i64 a0_0) ∧ w'.cell? ⟨gb241, 1, none⟩ = some (.slice (some ad252) l0_1.length c0_1) ∧ w'.cell? (ad251.add (x10_2).toNat) = some (.int .i64 (rd l1 x10_2)) ∧ w'.cell? (ad252.add (((rd l1 x10_2)).toNat * 4)) = some (.int .i64 ((rd_T35 l0_1 (rd l1 x10_2)).f0)) ∧ w'.cell? ⟨(ad252.add (((rd l1 x10_2)).toNat * 4)).block, (ad252.add (((rd l1 x10_2)).toNat * 4)).off + 1, none⟩ = some (.int .i64 ((rd_T35 l0_1 (rd l1 x10_2)).f1)) ∧ w'.cell? ⟨(ad252.add (((rd l1 x10_2)).toNat * 4)).block, (ad252.add (((rd l1 x10_2)).toNat * 4)).off + 2, none⟩ = some (.int .i64 ((rd_T35 l0_1 (rd l1 x10_2)).f2)) ∧ w'.cell? ⟨(ad252.add (((rd l1 x10_2)).toNat * 4)).block, (ad252.add (((rd l1 x10_2)).toNat * 4)).off + 3, none⟩ = some (.int .i64 ((rd_T35 l0_1 (rd l1 x10_2)).f3))) (ds := []) #[false, false, false, false, false, false, false, false, false, false] (by kernel_rfl) rfl rfl ⟨(blk_cell BK241.out 0).trans rfl, (blk_cell BK241.out 1).trans rfl, (hb_ HB.out hw251_0), (hb_ HB.out hw252_0), (hb_ HB.out hw252_1), (hb_ HB.out hw252_2), (hb_ HB.out hw252_3)⟩ (fun hHeld => ?_); refine with_tabW spec_l04Steps.tab10 spec_l04Steps.bits10 (fun HT_ HW_ => ?_)
               generalize wr.drew = w85 at HO_8 BK241 HB hx251_0 hx252_0 hx252_1 hx252_2 hx252_3 hHeld ⊢
               refine pure_ (i := 0) (N := some 35) (v := ?_) (a' := ?_) #[true, false, false, false, false, false, false, false, false, false] rfl rfl (any_of HT_.out (by kernel_rfl)) (fun _ _ _ h => h) (Or.inl ⟨by rfl, ?_⟩) ?_ ?_
               rotate_left
               ·intro w'
                go_simp
                with_reducible rfl
               rotate_left
               ·simp only [Act.put, zB, zC, zD, i64_w, i32_w]
                rfl
               refine pure_ (i := 2) (N := some 37) (v := ?_) (a' := ?_) #[true, false, true, false, false, false, false, false, false, false] rfl rfl (any_of HT_.out (by kernel_rfl)) (fun _ _ _ h => h) (Or.inl ⟨by rfl, ?_⟩) ?_ ?_
               rotate_left
               ·intro w'
                go_simp
                with_reducible rfl
               rotate_left
               ·simp only [Act.put, zB, zC, zD, i64_w, i32_w]
                rfl
               refine pure_ (i := 3) (N := some 38) (v := ?_) (a' := ?_) #[true, false, true, true, false, false, false, false, false, false] rfl rfl (any_of HT_.out (by kernel_rfl)) (fun _ _ _ h => h) (Or.inl ⟨by rfl, ?_⟩) ?_ ?_
               rotate_left
               ·intro w'
                go_simp
                with_reducible rfl
               rotate_left
               ·simp only [Act.put, zB, zC, zD, i64_w, i32_w]
                rfl
               refine pure_ (i := 4) (N := some 39) (v := ?_) (a' := ?_) #[true, false, true, true, true, false, false, false, false, false] rfl rfl (any_of HT_.out (by kernel_rfl)) (fun _ _ _ h => h) (Or.inl ⟨by rfl, ?_⟩) ?_ ?_
               rotate_left
               ·intro w'
                go_simp
                with_reducible rfl
               rotate_left
               ·simp only [Act.put, zB, zC, zD, i64_w, i32_w]
                rfl
               refine take_ (i := 1) (N := some 36) (v := ?_) (a' := ?_) #[true, true, true, true, true, false, false, false, false, false] rfl rfl (take_ofW HT_.out HW_.out (by kernel_rfl)) (fun _ _ _ h => h) (Or.inl ⟨by rfl, ?_⟩) hHeld ?_ ?_
               rotate_left
               ·rintro w' ⟨s0, s1, s2, s3, s4, s5, s6⟩
                go_simp
                with_reducible rfl
               rotate_left
               ·simp only [Act.put, zB, zC, zD, i64_w, i32_w]
                rfl
               refine take_ (i := 5) (N := some 40) (v := ?_) (a' := ?_) #[true, true, true, true, true, true, false, false, false, false] rfl rfl (take_ofW HT_.out HW_.out (by kernel_rfl)) (fun _ _ _ h => h) (Or.inl ⟨by rfl, ?_⟩) hHeld ?_ ?_
               rotate_left
               ·rintro w' ⟨s0, s1, s2, s3, s4, s5, s6⟩
                go_simp
                with_reducible rfl
               rotate_left
               ·simp only [Act.put, zB, zC, zD, i64_w, i32_w]
                rfl
               refine pure_ (i := 6) (N := some 41) (v := ?_) (a' := ?_) #[true, true, true, true, true, true, true, false, false, false] rfl rfl (any_of HT_.out (by kernel_rfl)) (fun _ _ _ h => h) (Or.inl ⟨by rfl, ?_⟩) ?_ ?_
               rotate_left
               ·intro w'
                go_simp
                with_reducible rfl
               rotate_left
               ·simp only [Act.put, zB, zC, zD, i64_w, i32_w]
                rfl
               refine take_ (i := 7) (N := some 42) (v := ?_) (a' := ?_) #[true, true, true, true, true, true, true, true, false, false] rfl rfl (take_ofW HT_.out HW_.out (by kernel_rfl)) (fun _ _ _ h => h) (Or.inl ⟨by rfl, ?_⟩) hHeld ?_ ?_
               rotate_left
               ·rintro w' ⟨s0, s1, s2, s3, s4, s5, s6⟩
                go_simp
                with_reducible rfl
               rotate_left
               ·simp only [Act.put, zB, zC, zD, i64_w, i32_w]
                rfl
               refine one_ (i := 8) (N := some 11) #[true, true, true, true, true, true, true, true, true, false] rfl rfl (one_of HT_.out (by kernel_rfl)) (by decide) (fun K hK => ?_)
               refine box_step ?hg (N := 11) ?hd (cs := #[.int .i64 0, .int .i64 0, .int .i64 0, .int .i64 0]) (t := 35) ?hr ?_; (case hd => rfl); (case hg => rfl); (case hr => first | (go_simp; done) | (go_simp; rfl))
               intro gb253 hg w86 hbox hb
               have n0_ := zA (zL (bC_ HO_8) hb)
               have n1_ := zA (zU (g := gb241) (o := .cells #[.int .i64 a0_0, .slice (some ad252) l0_1.length c0_1] 25 (0, 0)) (bA_ BK241) hb)
               have n2_ := zA (below_step (bB_ HB) hb)
               have n3_ := zA (hbox)
               have n4_ := zA ((by rw [hg]; exact (zT (bB_ HB)) : w.heap.size ≤ gb253))
               have n5_ := zA ((by rw [hg]; exact (zT (bB_ HB)) : w.heap.size ≤ gb253))
               have n6_ := zA ((by rw [hg]; exact Nat.ne_of_lt (blk_lt (g := gb241) (o := .cells #[.int .i64 a0_0, .slice (some ad252) l0_1.length c0_1] 25 (0, 0)) (bA_ BK241)) : gb241 ≠ gb253))
               have n7_ := zA ((by rw [hg]; exact Nat.ne_of_gt (blk_lt (g := gb241) (o := .cells #[.int .i64 a0_0, .slice (some ad252) l0_1.length c0_1] 25 (0, 0)) (bA_ BK241)) : gb253 ≠ gb241))
               clear HO_8
               clear BK241
               clear HB
               have HO_8 := n0_
               have BK241 := n1_
               have HB := n2_
               have BK253 := n3_
               have GW253 := n4_
               have GE253 := n5_
               have NB241_253 := n6_
               have NB253_241 := n7_
               clear n0_ n1_ n2_ n3_ n4_ n5_ n6_ n7_
               clear hb hbox hg
               refine hK.out _ _ ⟨(blk_cell BK241.out 0).trans rfl, (blk_cell BK241.out 1).trans rfl, (hb_ HB.out hw251_0), (hb_ HB.out hw252_0), (hb_ HB.out hw252_1), (hb_ HB.out hw252_2), (hb_ HB.out hw252_3)⟩ (fun hHeld => ?_)
               clear hK K
               refine norm_ (a' := ?_) ?_ ?_
               rotate_left
               ·show Act.put _ (some 11) _ = _
                simp only [Act.put, zB, zC, zD, i64_w, i32_w]
                rfl
               refine one_ (i := 9) (N := none) #[true, true, true, true, true, true, true, true, true, true] rfl rfl (one_of HT_.out (by kernel_rfl)) (by decide) (fun K hK => ?_)
               have hs87 : w86.cell? ⟨gb253, 0, none⟩ = some (.int .i64 0) := (blk_cell BK253.out 0).trans rfl
               have hfs87 := blk_frozen BK253.out 0
               have hns87_0 := NB241_253.out
               have hms87_0 := NB253_241.out
               have hs88 : w86.cell? ⟨gb253, 1, none⟩ = some (.int .i64 0) := (blk_cell BK253.out 1).trans rfl
               have hfs88 := blk_frozen BK253.out 1
               have hns88_0 := NB241_253.out
               have hms88_0 := NB253_241.out
               have hs89 : w86.cell? ⟨gb253, 2, none⟩ = some (.int .i64 0) := (blk_cell BK253.out 2).trans rfl
               have hfs89 := blk_frozen BK253.out 2
               have hns89_0 := NB241_253.out
               have hms89_0 := NB253_241.out
               have hs90 : w86.cell? ⟨gb253, 3, none⟩ = some (.int .i64 0) := (blk_cell BK253.out 3).trans rfl
               have hfs90 := blk_frozen BK253.out 3
               have hns90_0 := NB241_253.out
               have hms90_0 := NB253_241.out
               refine skip_ (w1 := ?_) (by rfl) rfl ?_ ?_
               rotate_left
               ·go_simp
                rfl
               refine hK.out _ _ ⟨((cell_far (p := ⟨gb253, _, none⟩) NB241_253.out _).trans (((cell_far (p := ⟨gb253, _, none⟩) NB241_253.out _).trans (((cell_far (p := ⟨gb253, _, none⟩) NB241_253.out _).trans (((cell_far (p := ⟨gb253, _, none⟩) NB241_253.out _).trans (hHeld.1)))))))), ((cell_far (p := ⟨gb253, _, none⟩) NB241_253.out _).trans (((cell_far (p := ⟨gb253, _, none⟩) NB241_253.out _).trans (((cell_far (p := ⟨gb253, _, none⟩) NB241_253.out _).trans (((cell_far (p := ⟨gb253, _, none⟩) NB241_253.out _).trans (hHeld.2.1)))))))), ((cell_far (p := ⟨gb253, _, none⟩) (by first | exact nbA_ hw251_0 GW253.out | exact nbB_ hw251_0 GW253.out | exact nbC_ hw251_0 GW253.out | exact nbD_ hw251_0 GW253.out) _).trans (((cell_far (p := ⟨gb253, _, none⟩) (by first | exact nbA_ hw251_0 GW253.out | exact nbB_ hw251_0 GW253.out | exact nbC_ hw251_0 GW253.out | exact nbD_ hw251_0 GW253.out) _).trans (((cell_far (p := ⟨gb253, _, none⟩) (by first | exact nbA_ hw251_0 GW253.out | exact nbB_ hw251_0 GW253.out | exact nbC_ hw251_0 GW253.out | exact nbD_ hw251_0 GW253.out) _).trans (((cell_far (p := ⟨gb253, _, none⟩) (by first | exact nbA_ hw251_0 GW253.out | exact nbB_ hw251_0 GW253.out | exact nbC_ hw251_0 GW253.out | exact nbD_ hw251_0 GW253.out) _).trans (hHeld.2.2.1)))))))), ((cell_far (p := ⟨gb253, _, none⟩) (by first | exact nbA_ hw252_0 GW253.out | exact nbB_ hw252_0 GW253.out | exact nbC_ hw252_0 GW253.out | exact nbD_ hw252_0 GW253.out) _).trans (((cell_far (p := ⟨gb253, _, none⟩) (by first | exact nbA_ hw252_0 GW253.out | exact nbB_ hw252_0 GW253.out | exact nbC_ hw252_0 GW253.out | exact nbD_ hw252_0 GW253.out) _).trans (((cell_far (p := ⟨gb253, _, none⟩) (by first | exact nbA_ hw252_0 GW253.out | exact nbB_ hw252_0 GW253.out | exact nbC_ hw252_0 GW253.out | exact nbD_ hw252_0 GW253.out) _).trans (((cell_far (p := ⟨gb253, _, none⟩) (by first | exact nbA_ hw252_0 GW253.out | exact nbB_ hw252_0 GW253.out | exact nbC_ hw252_0 GW253.out | exact nbD_ hw252_0 GW253.out) _).trans (hHeld.2.2.2.1)))))))), ((cell_far (p := ⟨gb253, _, none⟩) (by first | exact nbA_ hw252_1 GW253.out | exact nbB_ hw252_1 GW253.out | exact nbC_ hw252_1 GW253.out | exact nbD_ hw252_1 GW253.out) _).trans (((cell_far (p := ⟨gb253, _, none⟩) (by first | exact nbA_ hw252_1 GW253.out | exact nbB_ hw252_1 GW253.out | exact nbC_ hw252_1 GW253.out | exact nbD_ hw252_1 GW253.out) _).trans (((cell_far (p := ⟨gb253, _, none⟩) (by first | exact nbA_ hw252_1 GW253.out | exact nbB_ hw252_1 GW253.out | exact nbC_ hw252_1 GW253.out | exact nbD_ hw252_1 GW253.out) _).trans (((cell_far (p := ⟨gb253, _, none⟩) (by first | exact nbA_ hw252_1 GW253.out | exact nbB_ hw252_1 GW253.out | exact nbC_ hw252_1 GW253.out | exact nbD_ hw252_1 GW253.out) _).trans (hHeld.2.2.2.2.1)))))))), ((cell_far (p := ⟨gb253, _, none⟩) (by first | exact nbA_ hw252_2 GW253.out | exact nbB_ hw252_2 GW253.out | exact nbC_ hw252_2 GW253.out | exact nbD_ hw252_2 GW253.out) _).trans (((cell_far (p := ⟨gb253, _, none⟩) (by first | exact nbA_ hw252_2 GW253.out | exact nbB_ hw252_2 GW253.out | exact nbC_ hw252_2 GW253.out | exact nbD_ hw252_2 GW253.out) _).trans (((cell_far (p := ⟨gb253, _, none⟩) (by first | exact nbA_ hw252_2 GW253.out | exact nbB_ hw252_2 GW253.out | exact nbC_ hw252_2 GW253.out | exact nbD_ hw252_2 GW253.out) _).trans (((cell_far (p := ⟨gb253, _, none⟩) (by first | exact nbA_ hw252_2 GW253.out | exact nbB_ hw252_2 GW253.out | exact nbC_ hw252_2 GW253.out | exact nbD_ hw252_2 GW253.out) _).trans (hHeld.2.2.2.2.2.1)))))))), ((cell_far (p := ⟨gb253, _, none⟩) (by first | exact nbA_ hw252_3 GW253.out | exact nbB_ hw252_3 GW253.out | exact nbC_ hw252_3 GW253.out | exact nbD_ hw252_3 GW253.out) _).trans (((cell_far (p := ⟨gb253, _, none⟩) (by first | exact nbA_ hw252_3 GW253.out | exact nbB_ hw252_3 GW253.out | exact nbC_ hw252_3 GW253.out | exact nbD_ hw252_3 GW253.out) _).trans (((cell_far (p := ⟨gb253, _, none⟩) (by first | exact nbA_ hw252_3 GW253.out | exact nbB_ hw252_3 GW253.out | exact nbC_ hw252_3 GW253.out | exact nbD_ hw252_3 GW253.out) _).trans (((cell_far (p := ⟨gb253, _, none⟩) (by first | exact nbA_ hw252_3 GW253.out | exact nbB_ hw252_3 GW253.out | exact nbC_ hw252_3 GW253.out | exact nbD_ hw252_3 GW253.out) _).trans (hHeld.2.2.2.2.2.2))))))))⟩ (fun hHeld => ?_)
               clear hK K
               refine done_ (done_of HT_.out (by kernel_rfl)) ?_
               have hnb91 := NB253_241.out
               have hnc91 := NB241_253.out
               have hcz92_0 : w86.cell? ⟨gb253, 0, none⟩ = some (.int .i64 0) := (blk_cell BK253.out 0).trans rfl
               have hcz92_1 : w86.cell? ⟨gb253, 1, none⟩ = some (.int .i64 0) := (blk_cell BK253.out 1).trans rfl
               have hcz92_2 : w86.cell? ⟨gb253, 2, none⟩ = some (.int .i64 0) := (blk_cell BK253.out 2).trans rfl
               have hcz92_3 : w86.cell? ⟨gb253, 3, none⟩ = some (.int .i64 0) := (blk_cell BK253.out 3).trans rfl
               have hfz92_0 := blk_frozen BK253.out 0
               have hfz92_1 := blk_frozen BK253.out 1
               have hfz92_2 := blk_frozen BK253.out 2
               have hfz92_3 := blk_frozen BK253.out 3
               try go_wp2
               go_roundg k2
               case measure => have := HK1.out; have := HK2.out; omega
               case rel => exact ⟨(x8_2), (wrap64 (x10_2 + 1)), (by first | rfl | (simp; done) | (simp [*]; done)), H', ⟨by have := HK1.out; have := HK2.out; omega⟩, ⟨by (with_reducible repeat (first | apply zF | apply zE | apply zG)); exact Kd.R_mono (Kd.R_far (p := ⟨gb253, 3, none⟩) (Kd.R_far (p := ⟨gb253, 2, none⟩) (Kd.R_far (p := ⟨gb253, 1, none⟩) (Kd.R_far (p := ⟨gb253, 0, none⟩) (Kd.R_types HO_8.out BK253.out (by decide)) (fun _ hk => hk.2) (.int .i64 ((rd_T35 l0_1 (rd l1 x10_2)).f0))) (fun _ hk => hk.2) (.int .i64 ((rd_T35 l0_1 (rd l1 x10_2)).f1))) (fun _ hk => hk.2) (.int .i64 ((rd_T35 l0_1 (rd l1 x10_2)).f2))) (fun _ hk => hk.2) (.int .i64 ((rd_T35 l0_1 (rd l1 x10_2)).f3))) (fun _ hk => trivial)⟩, ⟨bD_ BK241⟩, ⟨bB_ HB⟩⟩
         ·rw [if_neg c17] at H
          exact absurd H (by simp)
        ·rw [if_neg c16] at H
         exact absurd H (by simp)
       ·rw [if_neg c15] at H
        exact absurd H (by simp)
      ·rw [if_neg c14] at H
       have c14b0 : decide (x10_2 < (l1.length : Int)) = false := decide_eq_false c14
       clear c14
       obtain rfl := Option.some.inj H
       go_wp2
       go_ret
       exact ⟨_, by first | rfl | (simp [errW_none, errW_some] <;> rfl) | (simp [*, errW_none, errW_some] <;> rfl), bC_ HO_8, bB_ HB⟩

end Go.Proofs.Ytnbkdfnlggmopaa.PFnExactSketchMove
