/- Written for this claim by a program of this session: the functions that the law reaches, each with its contract. -/
import Derived.Test.YtnbkdfnlggmopaaPFnExactSketchMovex0
namespace Go.Proofs.Ytnbkdfnlggmopaa.PFnExactSketchMove
open Go.RowKit Go.Proofs.YtnbkdfnlggmopaaW.PrintWords Go.Proofs.YtnbkdfnlggmopaaW.PrintLast Go.Proofs.YtnbkdfnlggmopaaW.PrintMore
open Go.Proofs.YtnbkdfnlggmopaaW.PrintWords.Aside0 renaming mk → zA
open Go.Proofs.YtnbkdfnlggmopaaW.PrintWords renaming below_size → zT
attribute [local go_sem] i64_w max2_int min2_int max_two min_two max_three min_three max_four min_four
set_option linter.unusedVariables false
set_option linter.unusedSimpArgs false

def spec_l04All.l0 : Nat → List Int → Int → Int → List (S35) → Option (List Int)
 | 0, _, _, _, _ => none
 | k + 1, x3, x4, x235000, x235001 => if x4 < (x235001.length : Int) then (if x3.length < 17592186044416 then (spec_l04All.l0 k (x3 ++ [x4]) (wrap64 (x4 + 1)) x235000 x235001) else (none)) else (some x3)
def spec_l04All.f (k : Nat) (a0_0 : Int) (l0_1 : List (S35)) : Option (List Int) := spec_l04All.l0 k (([] : List Int)) 0 a0_0 l0_1
theorem spec_l04All.mono_l : ∀ k, (∀ y0 y1 y2 y3, LeO (spec_l04All.l0 k y0 y1 y2 y3) (spec_l04All.l0 (k + 1) y0 y1 y2 y3))
 | 0 => fun _ _ _ _ r h => by simp [spec_l04All.l0] at h
 | k + 1 => by
  have ih0 := spec_l04All.mono_l k
  ·intro y0 y1 y2 y3
   unfold spec_l04All.l0
   repeat' first
   | (with_reducible exact ih0 _ _ _ _)
   | (with_reducible exact LeO.refl _)
   | (with_reducible exact LeO.none _)
   | (with_reducible refine LeO.ite ?_ ?_)
   | (with_reducible refine LeO.bind ?_ (fun _ => ?_))
   | exact ih0 _ _ _ _
   | exact LeO.none _
   | refine LeO.ite ?_ ?_
   | refine LeO.bind ?_ (fun _ => ?_)
theorem spec_l04All.mono : ∀ a0 a1 k, LeO (spec_l04All.f k a0 a1) (spec_l04All.f (k + 1) a0 a1) := by
 intro a0 a1 k
 have ih0 := spec_l04All.mono_l k
 unfold spec_l04All.f
 repeat' first
   | (with_reducible exact ih0 _ _ _ _)
   | (with_reducible exact LeO.refl _)
   | (with_reducible exact LeO.none _)
   | (with_reducible refine LeO.ite ?_ ?_)
   | (with_reducible refine LeO.bind ?_ (fun _ => ?_))
   | exact ih0 _ _ _ _
   | exact LeO.none _
   | refine LeO.ite ?_ ?_
   | refine LeO.bind ?_ (fun _ => ?_)
set_option maxHeartbeats 8000000 in
set_option maxRecDepth 100000 in
theorem spec_l04All.calls (k : Nat) (a0_0 : Int) (A0_1 : Option Addr) (c0_1 : Nat) (l0_1 : List (S35)) (r : List Int) (w : World) (hr0_1 : Kd.C k35 w A0_1 l0_1.length l0_1) (hc0_1 : l0_1.length ≤ c0_1) (h : spec_l04All.f k a0_0 l0_1 = some r) :
  Calls Try.prog 34 #[.agg #[.int .i64 a0_0, .slice A0_1 l0_1.length c0_1]] w fun e w' => ∃ v0_ : Value, e = .returned (v0_) ∧ Kd.R (Kd.int .i64) 3 w' w.heap.size (fun _ => True) v0_ r ∧ Below w.heap.size w w' := by
 have hu25 := Try.underlying25
 have HR0_1 := zA hr0_1
 have HC0_1 := zA hc0_1
 clear hr0_1 hc0_1
 have HB := zA (Below.refl w.heap.size w)
 have H : (spec_l04All.l0 k (([] : List Int)) 0 a0_0 l0_1) = some r := h
 clear h
 obtain ⟨y235, hy235⟩ : ∃ y_ : List Int, y_ = (([] : List Int)) := ⟨_, rfl⟩
 replace H : (spec_l04All.l0 k y235 0 a0_0 l0_1) = some r := by first | (rw [hy235]; with_reducible exact H) | (have H2_ := (Option.bind_some _ _).symm.trans H; rw [hy235]; with_reducible exact H2_) | (have H2_ := (Option.bind_some _ _).symm.trans H; with_reducible exact H2_) | with_reducible exact H | (rw [hy235]; exact H) | exact H
 have Ny235 := zA hy235
 clear hy235
 have H' := zA H
 clear H
 go_enter Try.func34, Try.ntmps34
 go_wp2_with (first | ((with_reducible refine gate_dst (N := 1) rfl ?_); refine box_event ?hg (N := 1) ?hd (cs := #[.int .i64 a0_0, .slice A0_1 l0_1.length c0_1]) (t := 25) ?hr ?_; (case hd => rfl); (case hg => rfl); (case hr => first | (go_simp; done) | (go_simp; rfl)); intro gb234 hg w2 hbox hb; have n0_ := zA (below_step (bB_ HB) hb); have n1_ := zA (hbox); have n2_ := zA ((by rw [hg]; exact (zT (bB_ HB)) : w.heap.size ≤ gb234)); have n3_ := zA ((by rw [hg]; exact (zT (bB_ HB)) : w.heap.size ≤ gb234)); clear HB; have HB := n0_; have BK234 := n1_; have GW234 := n2_; have GE234 := n3_; clear n0_ n1_ n2_ n3_; clear hb hbox hg) | ((with_reducible refine gate_dst (N := 5) rfl ?_); refine Kd.R_lit (Kd.int .i64) _ 3 ?hg (N := 5) ?hd (xs := ([] : List Int)) (inner := []) (ok := fun _ => True) (okp := fun _ => True) ?hr ?hp (fun _ hk => hk) trivial (Below.refl _ _) (Nat.le_refl _) (by simp) ?_; (case hd => rfl); (case hg => rfl); (case hr => first | (go_simp; done) | (go_simp; rfl)); (case hp => exact (Reps.none _ _)); intro v236 w3 ho4 hb hg_ hnew_; clear hg_ hnew_; (first | rw [← Ny235.out] at ho4 | (simp only [Int.reduceToNat] at ho4; rw [← Ny235.out] at ho4)); have n0_ := zA (Kd.R_lower ho4 (zT (bB_ HB))); have n1_ := zA (blk_below (g := gb234) (o := .cells #[.int .i64 a0_0, .slice A0_1 l0_1.length c0_1] 25 (0, 0)) (bA_ BK234) hb); have n2_ := zA (below_step (bB_ HB) hb); clear BK234; clear HB; have HO237 := n0_; have BK234 := n1_; have HB := n2_; clear n0_ n1_ n2_; clear hb ho4))
 go_loopg [3, 4] k (fun kq v3 v4 w' => ∃ (x3_1 : List Int) (x4_1 : Int), v4 = .int .i64 x4_1 ∧ Aside0 (spec_l04All.l0 kq x3_1 x4_1 a0_0 l0_1 = some r) ∧ Aside0 (kq ≤ k) ∧ Aside0 (Kd.R (Kd.int .i64) 3 w' w.heap.size (fun _ => True) v3 x3_1) ∧ Aside0 (w'.heap[gb234]? = some (.cells #[.int .i64 a0_0, (.slice A0_1 l0_1.length c0_1)] 25 (0, 0))) ∧ Aside0 (Below w.heap.size w w'))
 case atStart => exact ⟨(y235), (0), (by first | rfl | (simp; done) | (simp [*]; done)), H', ⟨Nat.le_refl _⟩, ⟨bC_ HO237⟩, ⟨bA_ BK234⟩, ⟨bB_ HB⟩⟩
 case round =>
  clear H'
  try clear p2
  try clear c3
  obtain ⟨x3_1, x4_1, rfl, HA, HK1, HO_3, BK234, HB⟩ := hrel
  cases gk with
  | zero => exact absurd HA.out (by simp [spec_l04All.l0])
  | succ k1 =>
   have H := HA.out
   clear HA
   simp only [spec_l04All.l0] at H
   by_cases c5 : x4_1 < (l0_1.length : Int)
   ·rw [if_pos c5] at H
    have c5b0 : decide (x4_1 < (l0_1.length : Int)) = true := decide_eq_true c5
    clear c5
    by_cases c6 : x3_1.length < 17592186044416
    ·rw [if_pos c6] at H
     have LMc6 := zA c6
     clear c6
     obtain ⟨y238, hy238⟩ : ∃ y_ : List Int, y_ = (x3_1 ++ [x4_1]) := ⟨_, rfl⟩
     replace H : (spec_l04All.l0 k1 y238 (wrap64 (x4_1 + 1)) a0_0 l0_1) = some r := by first | (rw [hy238]; with_reducible exact H) | (have H2_ := (Option.bind_some _ _).symm.trans H; rw [hy238]; with_reducible exact H2_) | (have H2_ := (Option.bind_some _ _).symm.trans H; with_reducible exact H2_) | with_reducible exact H | (rw [hy238]; exact H) | exact H
     have Ny238 := zA hy238
     clear hy238
     have H' := zA H
     clear H
     have hcz7_0 : wr.cell? ⟨gb234, 0, none⟩ = some (.int .i64 a0_0) := (blk_cell BK234.out 0).trans rfl
     have hcz7_1 : wr.cell? ⟨gb234, 1, none⟩ = some (.slice A0_1 l0_1.length c0_1) := (blk_cell BK234.out 1).trans rfl
     have hfz7_0 := blk_frozen BK234.out 0
     have hfz7_1 := blk_frozen BK234.out 1
     go_wp2_with (first | ((with_reducible refine gate_builtin (b := .append) (xs := #[.tmp 13, .tmp 15]) rfl ?_); at_builtin; refine Kd.R_append (Kd.int .i64) (w0 := w) w.heap.size rfl (.tmp 13) (.tmp 15) 28 3 (.int .i64 0) 8 rfl Try.underlying28 info3 rfl (by decide) (by omega) u3 x3_1 x4_1 [.int .i64 x4_1] (fun _ => True) (fun _ => False) rfl rfl ?aP (fun _ hk => hk.elim) ?aF ?aO ?aB ?aS ?aL ?_; (case aP => exact rfl); (case aB => exact (bB_ HB)); (case aF => exact (fun _ _ => trivial)); (case aO => exact (bC_ HO_3)); (case aS => exact (zT (bB_ HB))); (case aL => have := LMc6.out; omega); intro v239 w8 ho hb hg hat; rw [← Ny238.out] at ho; have n0_ := zA (blk_grown (g := gb234) (o := .cells #[.int .i64 a0_0, .slice A0_1 l0_1.length c0_1] 25 (0, 0)) (bA_ BK234) hg (Kd.R_ne HO_3.out BK234.out (by decide))); have n1_ := zA (hb); have n2_ := zA (ho); clear BK234; clear HB; clear HO_3; have BK234 := n0_; have HB := n1_; have HO240 := n2_; clear n0_ n1_ n2_; clear ho hb hg hat))
     go_roundg k1
     case measure => have := HK1.out; omega
     case rel => exact ⟨(y238), (wrap64 (x4_1 + 1)), (by first | rfl | (simp; done) | (simp [*]; done)), H', ⟨by have := HK1.out; omega⟩, ⟨bC_ HO240⟩, ⟨bA_ BK234⟩, ⟨bB_ HB⟩⟩
    ·rw [if_neg c6] at H
     exact absurd H (by simp)
   ·rw [if_neg c5] at H
    have c5b0 : decide (x4_1 < (l0_1.length : Int)) = false := decide_eq_false c5
    clear c5
    obtain rfl := Option.some.inj H
    have hcz9_0 : wr.cell? ⟨gb234, 0, none⟩ = some (.int .i64 a0_0) := (blk_cell BK234.out 0).trans rfl
    have hcz9_1 : wr.cell? ⟨gb234, 1, none⟩ = some (.slice A0_1 l0_1.length c0_1) := (blk_cell BK234.out 1).trans rfl
    have hfz9_0 := blk_frozen BK234.out 0
    have hfz9_1 := blk_frozen BK234.out 1
    go_wp2
    go_ret
    exact ⟨_, by first | rfl | (simp [errW_none, errW_some] <;> rfl) | (simp [*, errW_none, errW_some] <;> rfl), bC_ HO_3, bB_ HB⟩

end Go.Proofs.Ytnbkdfnlggmopaa.PFnExactSketchMove
