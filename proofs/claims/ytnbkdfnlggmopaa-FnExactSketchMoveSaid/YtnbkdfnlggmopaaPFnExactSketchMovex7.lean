/- Written for this claim by a program of this session: the functions that the law reaches, each with its contract. -/
import Derived.Test.YtnbkdfnlggmopaaPFnExactSketchMovex0
import Derived.Test.YtnbkdfnlggmopaaPFnExactSketchMovex6
namespace Go.Proofs.Ytnbkdfnlggmopaa.PFnExactSketchMove
open Go.RowKit Go.Proofs.YtnbkdfnlggmopaaW.PrintWords Go.Proofs.YtnbkdfnlggmopaaW.PrintLast Go.Proofs.YtnbkdfnlggmopaaW.PrintMore
open Go.Proofs.YtnbkdfnlggmopaaW.PrintWords.Aside0 renaming mk → zA
open List renaming setIfInBounds_toArray → zB, set_cons_zero → zC, set_cons_succ → zD
open Go.Proofs.YtnbkdfnlggmopaaW.PrintWords renaming blk_drewN → zM, blk_drew → zN, blk_alloc → zO, below_size → zT
attribute [local go_sem] i64_w max2_int min2_int max_two min_two max_three min_three max_four min_four
set_option linter.unusedVariables false
set_option linter.unusedSimpArgs false

mutual
def spec_SketchOK.j0 : Nat → Bool → Int → List (S35) → Option (Bool)
 | 0, _, _, _ => none
 | k + 1, x20, x230000, x230001 => if x20 = true then (some false) else (spec_SketchOK.l0 k 0 x230000 x230001)
def spec_SketchOK.l0 : Nat → Int → Int → List (S35) → Option (Bool)
 | 0, _, _, _ => none
 | k + 1, x3, x230000, x230001 => if x3 < (x230001.length : Int) then (if 0 ≤ x3 then (if ((rd_T35 x230001 x3).f0) < 1 then (spec_SketchOK.j2 k x3 true x230000 x230001 ((rd_T35 x230001 x3).f0) ((rd_T35 x230001 x3).f1) ((rd_T35 x230001 x3).f2) ((rd_T35 x230001 x3).f3)) else (if ((rd_T35 x230001 x3).f0) > 9 then (spec_SketchOK.j2 k x3 true x230000 x230001 ((rd_T35 x230001 x3).f0) ((rd_T35 x230001 x3).f1) ((rd_T35 x230001 x3).f2) ((rd_T35 x230001 x3).f3)) else (if ((rd_T35 x230001 x3).f1) < 0 then (spec_SketchOK.j2 k x3 true x230000 x230001 ((rd_T35 x230001 x3).f0) ((rd_T35 x230001 x3).f1) ((rd_T35 x230001 x3).f2) ((rd_T35 x230001 x3).f3)) else (spec_SketchOK.j2 k x3 (decide (((rd_T35 x230001 x3).f1) ≥ x230000)) x230000 x230001 ((rd_T35 x230001 x3).f0) ((rd_T35 x230001 x3).f1) ((rd_T35 x230001 x3).f2) ((rd_T35 x230001 x3).f3))))) else (none)) else (some true)
def spec_SketchOK.j2 : Nat → Int → Bool → Int → List (S35) → Int → Int → Int → Int → Option (Bool)
 | 0, _, _, _, _, _, _, _, _ => none
 | k + 1, x3, x52, x230000, x230001, x232000, x232001, x232002, x232003 => if x52 = true then (some false) else ((spec_l04Wants.f x232000).bind fun bt232 => (if bt232.1 = true then (if x232002 < 0 then (spec_SketchOK.j3 k x3 bt232.2 true x230000 x230001 x232000 x232001 x232002 x232003) else (if x232002 ≥ x230000 then (spec_SketchOK.j3 k x3 bt232.2 true x230000 x230001 x232000 x232001 x232002 x232003) else (spec_SketchOK.j3 k x3 bt232.2 false x230000 x230001 x232000 x232001 x232002 x232003))) else (spec_SketchOK.j3 k x3 bt232.2 (x232002 != 0) x230000 x230001 x232000 x232001 x232002 x232003)))
def spec_SketchOK.j3 : Nat → Int → Bool → Bool → Int → List (S35) → Int → Int → Int → Int → Option (Bool)
 | 0, _, _, _, _, _, _, _, _, _ => none
 | k + 1, x3, x6, x80, x230000, x230001, x232000, x232001, x232002, x232003 => if x80 = true then (some false) else (if x6 = true then (if x232003 < (-100000) then (some false) else (if x232003 > 100000 then (some false) else (spec_SketchOK.l0 k (wrap64 (x3 + 1)) x230000 x230001))) else (if x232003 = 0 then (spec_SketchOK.l0 k (wrap64 (x3 + 1)) x230000 x230001) else (some false)))
end
def spec_SketchOK.f (k : Nat) (a0_0 : Int) (l0_1 : List (S35)) : Option (Bool) := if a0_0 < 1 then (spec_SketchOK.j0 k true a0_0 l0_1) else (if a0_0 > 24 then (spec_SketchOK.j0 k true a0_0 l0_1) else (spec_SketchOK.j0 k (decide ((l0_1.length : Int) > 60)) a0_0 l0_1))
theorem spec_SketchOK.mono_l : ∀ k, (∀ y0 y1 y2, LeO (spec_SketchOK.j0 k y0 y1 y2) (spec_SketchOK.j0 (k + 1) y0 y1 y2)) ∧ (∀ y0 y1 y2, LeO (spec_SketchOK.l0 k y0 y1 y2) (spec_SketchOK.l0 (k + 1) y0 y1 y2)) ∧ (∀ y0 y1 y2 y3 y4 y5 y6 y7, LeO (spec_SketchOK.j2 k y0 y1 y2 y3 y4 y5 y6 y7) (spec_SketchOK.j2 (k + 1) y0 y1 y2 y3 y4 y5 y6 y7)) ∧ (∀ y0 y1 y2 y3 y4 y5 y6 y7 y8, LeO (spec_SketchOK.j3 k y0 y1 y2 y3 y4 y5 y6 y7 y8) (spec_SketchOK.j3 (k + 1) y0 y1 y2 y3 y4 y5 y6 y7 y8))
 | 0 => ⟨fun _ _ _ r h => by simp [spec_SketchOK.j0] at h, fun _ _ _ r h => by simp [spec_SketchOK.l0] at h, fun _ _ _ _ _ _ _ _ r h => by simp [spec_SketchOK.j2] at h, fun _ _ _ _ _ _ _ _ _ r h => by simp [spec_SketchOK.j3] at h⟩
 | k + 1 => by
  obtain ⟨ih0, ih1, ih2, ih3⟩ := spec_SketchOK.mono_l k
  refine ⟨?_, ?_, ?_, ?_⟩
  ·intro y0 y1 y2
   unfold spec_SketchOK.j0
   repeat' first
   | (with_reducible exact ih0 _ _ _)
   | (with_reducible exact ih1 _ _ _)
   | (with_reducible exact ih2 _ _ _ _ _ _ _ _)
   | (with_reducible exact ih3 _ _ _ _ _ _ _ _ _)
   | (with_reducible exact LeO.refl _)
   | (with_reducible exact LeO.none _)
   | (with_reducible refine LeO.ite ?_ ?_)
   | (with_reducible refine LeO.bind ?_ (fun _ => ?_))
   | exact ih0 _ _ _
   | exact ih1 _ _ _
   | exact ih2 _ _ _ _ _ _ _ _
   | exact ih3 _ _ _ _ _ _ _ _ _
   | exact LeO.none _
   | refine LeO.ite ?_ ?_
   | refine LeO.bind ?_ (fun _ => ?_)
  ·intro y0 y1 y2
   unfold spec_SketchOK.l0
   repeat' first
   | (with_reducible exact ih0 _ _ _)
   | (with_reducible exact ih1 _ _ _)
   | (with_reducible exact ih2 _ _ _ _ _ _ _ _)
   | (with_reducible exact ih3 _ _ _ _ _ _ _ _ _)
   | (with_reducible exact LeO.refl _)
   | (with_reducible exact LeO.none _)
   | (with_reducible refine LeO.ite ?_ ?_)
   | (with_reducible refine LeO.bind ?_ (fun _ => ?_))
   | exact ih0 _ _ _
   | exact ih1 _ _ _
   | exact ih2 _ _ _ _ _ _ _ _
   | exact ih3 _ _ _ _ _ _ _ _ _
   | exact LeO.none _
   | refine LeO.ite ?_ ?_
   | refine LeO.bind ?_ (fun _ => ?_)
  ·intro y0 y1 y2 y3 y4 y5 y6 y7
   unfold spec_SketchOK.j2
   repeat' first
   | (with_reducible exact ih0 _ _ _)
   | (with_reducible exact ih1 _ _ _)
   | (with_reducible exact ih2 _ _ _ _ _ _ _ _)
   | (with_reducible exact ih3 _ _ _ _ _ _ _ _ _)
   | (with_reducible exact LeO.refl _)
   | (with_reducible exact LeO.none _)
   | (with_reducible refine LeO.ite ?_ ?_)
   | (with_reducible refine LeO.bind ?_ (fun _ => ?_))
   | exact ih0 _ _ _
   | exact ih1 _ _ _
   | exact ih2 _ _ _ _ _ _ _ _
   | exact ih3 _ _ _ _ _ _ _ _ _
   | exact LeO.none _
   | refine LeO.ite ?_ ?_
   | refine LeO.bind ?_ (fun _ => ?_)
  ·intro y0 y1 y2 y3 y4 y5 y6 y7 y8
   unfold spec_SketchOK.j3
   repeat' first
   | (with_reducible exact ih0 _ _ _)
   | (with_reducible exact ih1 _ _ _)
   | (with_reducible exact ih2 _ _ _ _ _ _ _ _)
   | (with_reducible exact ih3 _ _ _ _ _ _ _ _ _)
   | (with_reducible exact LeO.refl _)
   | (with_reducible exact LeO.none _)
   | (with_reducible refine LeO.ite ?_ ?_)
   | (with_reducible refine LeO.bind ?_ (fun _ => ?_))
   | exact ih0 _ _ _
   | exact ih1 _ _ _
   | exact ih2 _ _ _ _ _ _ _ _
   | exact ih3 _ _ _ _ _ _ _ _ _
   | exact LeO.none _
   | refine LeO.ite ?_ ?_
   | refine LeO.bind ?_ (fun _ => ?_)
theorem spec_SketchOK.mono : ∀ a0 a1 k, LeO (spec_SketchOK.f k a0 a1) (spec_SketchOK.f (k + 1) a0 a1) := by
 intro a0 a1 k
 obtain ⟨ih0, ih1, ih2, ih3⟩ := spec_SketchOK.mono_l k
 unfold spec_SketchOK.f
 repeat' first
   | (with_reducible exact ih0 _ _ _)
   | (with_reducible exact ih1 _ _ _)
   | (with_reducible exact ih2 _ _ _ _ _ _ _ _)
   | (with_reducible exact ih3 _ _ _ _ _ _ _ _ _)
   | (with_reducible exact LeO.refl _)
   | (with_reducible exact LeO.none _)
   | (with_reducible refine LeO.ite ?_ ?_)
   | (with_reducible refine LeO.bind ?_ (fun _ => ?_))
   | exact ih0 _ _ _
   | exact ih1 _ _ _
   | exact ih2 _ _ _ _ _ _ _ _
   | exact ih3 _ _ _ _ _ _ _ _ _
   | exact LeO.none _
   | refine LeO.ite ?_ ?_
   | refine LeO.bind ?_ (fun _ => ?_)
set_option maxHeartbeats 8000000 in
set_option maxRecDepth 100000 in
theorem spec_SketchOK.calls (k : Nat) (a0_0 : Int) (A0_1 : Option Addr) (c0_1 : Nat) (l0_1 : List (S35)) (r : Bool) (w : World) (hr0_1 : Kd.C k35 w A0_1 l0_1.length l0_1) (hc0_1 : l0_1.length ≤ c0_1) (h : spec_SketchOK.f k a0_0 l0_1 = some r) :
  Calls Try.prog 16 #[.agg #[.int .i64 a0_0, .slice A0_1 l0_1.length c0_1]] w fun e w' => e = .returned (.bool r) ∧ Below w.heap.size w w' := by
 have hu25 := Try.underlying25
 have hu35 := Try.underlying35
 have HR0_1 := zA hr0_1
 have HC0_1 := zA hc0_1
 clear hr0_1 hc0_1
 have HB := zA (Below.refl w.heap.size w)
 have H : (if a0_0 < 1 then (spec_SketchOK.j0 k true a0_0 l0_1) else (if a0_0 > 24 then (spec_SketchOK.j0 k true a0_0 l0_1) else (spec_SketchOK.j0 k (decide ((l0_1.length : Int) > 60)) a0_0 l0_1))) = some r := h
 clear h
 have HC2 := zA H
 clear H
 go_enter Try.func16, Try.ntmps16
 go_upto_region 1 with (first | ((with_reducible refine gate_dst (N := 1) rfl ?_); (try (refine gate_guard (by rfl) ?_; dsimp only)); refine box_event ?hg (N := 1) ?hd (cs := #[.int .i64 a0_0, .slice A0_1 l0_1.length c0_1]) (t := 25) ?hr ?_; (case hd => rfl); (case hg => rfl); (case hr => first | (go_simp; done) | (go_simp; rfl)); intro gb229 hg w3 hbox hb; have n0_ := zA (below_step (bB_ HB) hb); have n1_ := zA (hbox); have n2_ := zA ((by rw [hg]; exact (zT (bB_ HB)) : w.heap.size ≤ gb229)); have n3_ := zA ((by rw [hg]; exact (zT (bB_ HB)) : w.heap.size ≤ gb229)); clear HB; have HB := n0_; have BK229 := n1_; have GW229 := n2_; have GE229 := n3_; clear n0_ n1_ n2_ n3_; clear hb hbox hg))
 (try simp only [Act.put, zB, zC, zD])
 go_cut [20] (fun v20 wc => ∃ (kq : Nat) (x20_1 : Bool), v20 = .bool x20_1 ∧ Aside0 (spec_SketchOK.j0 kq x20_1 a0_0 l0_1 = some r) ∧ Aside0 (kq ≤ k) ∧ Aside0 (wc.heap[gb229]? = some (.cells #[.int .i64 a0_0, (.slice A0_1 l0_1.length c0_1)] 25 (0, 0))) ∧ Aside0 (Below w.heap.size w wc))
 case first =>
  have H := HC2.out
  clear HC2
  by_cases c4 : a0_0 < 1
  ·rw [if_pos c4] at H
   have c4b0 : decide (a0_0 < 1) = true := decide_eq_true c4
   clear c4
   (first | rw [c4b0] | (simp only [i64_w, i32_w]; rw [c4b0]) | skip)
   have H' := zA H
   clear H
   have hcz5_0 : w3.cell? ⟨gb229, 0, none⟩ = some (.int .i64 a0_0) := (blk_cell BK229.out 0).trans rfl
   have hcz5_1 : w3.cell? ⟨gb229, 1, none⟩ = some (.slice A0_1 l0_1.length c0_1) := (blk_cell BK229.out 1).trans rfl
   have hfz5_0 := blk_frozen BK229.out 0
   have hfz5_1 := blk_frozen BK229.out 1
   go_wp2
   go_meet
   case rel => exact ⟨_, (true), (by first | rfl | (simp; done) | (simp [*]; done)), H', ⟨by first | omega | exact Nat.le_refl _⟩, ⟨bA_ BK229⟩, ⟨bB_ HB⟩⟩
  ·rw [if_neg c4] at H
   have c4b0 : decide (a0_0 < 1) = false := decide_eq_false c4
   clear c4
   (first | rw [c4b0] | (simp only [i64_w, i32_w]; rw [c4b0]) | skip)
   by_cases c6 : a0_0 > 24
   ·rw [if_pos c6] at H
    have c6b0 : decide (24 < a0_0) = true := decide_eq_true c6
    clear c6
    have H' := zA H
    clear H
    have hcz7_0 : w3.cell? ⟨gb229, 0, none⟩ = some (.int .i64 a0_0) := (blk_cell BK229.out 0).trans rfl
    have hcz7_1 : w3.cell? ⟨gb229, 1, none⟩ = some (.slice A0_1 l0_1.length c0_1) := (blk_cell BK229.out 1).trans rfl
    have hfz7_0 := blk_frozen BK229.out 0
    have hfz7_1 := blk_frozen BK229.out 1
    go_wp2
    go_meet
    case rel => exact ⟨_, (true), (by first | rfl | (simp; done) | (simp [*]; done)), H', ⟨by first | omega | exact Nat.le_refl _⟩, ⟨bA_ BK229⟩, ⟨bB_ HB⟩⟩
   ·rw [if_neg c6] at H
    have c6b0 : decide (24 < a0_0) = false := decide_eq_false c6
    clear c6
    have H' := zA H
    clear H
    have hcz8_0 : w3.cell? ⟨gb229, 0, none⟩ = some (.int .i64 a0_0) := (blk_cell BK229.out 0).trans rfl
    have hcz8_1 : w3.cell? ⟨gb229, 1, none⟩ = some (.slice A0_1 l0_1.length c0_1) := (blk_cell BK229.out 1).trans rfl
    have hfz8_0 := blk_frozen BK229.out 0
    have hfz8_1 := blk_frozen BK229.out 1
    go_wp2
    go_meet
    case rel => exact ⟨_, (decide ((l0_1.length : Int) > 60)), (by first | rfl | (simp; done) | (simp [*]; done)), H', ⟨by first | omega | exact Nat.le_refl _⟩, ⟨bA_ BK229⟩, ⟨bB_ HB⟩⟩
 case rest =>
  clear HC2
  try clear c1
  try clear p2
  try clear c4
  try clear c4b0
  try clear c6
  try clear c6b0
  try clear hcz5_0
  try clear hcz5_1
  try clear hcz7_0
  try clear hcz7_1
  try clear hcz8_0
  try clear hcz8_1
  try clear hfz5_0
  try clear hfz5_1
  try clear hfz7_0
  try clear hfz7_1
  try clear hfz8_0
  try clear hfz8_1
  obtain ⟨kq, x20_1, rfl, HA, HJ1, BK229, HB⟩ := hcut
  cases kq with
  | zero => exact absurd HA.out (by simp [spec_SketchOK.j0])
  | succ kj1 =>
   have H := HA.out
   clear HA
   simp only [spec_SketchOK.j0] at H
   by_cases c9 : x20_1 = true
   ·subst c9
    have H1 : (some false) = some r := by rw [if_pos rfl] at H; exact H
    clear H
    have H := H1
    clear H1
    obtain rfl := Option.some.inj H
    go_wp2
    go_ret
    exact ⟨by first | rfl | (simp [errW_none, errW_some] <;> rfl) | (simp [*, errW_none, errW_some] <;> rfl), bB_ HB⟩
   ·replace c9 := Bool.eq_false_iff.mpr c9
    subst c9
    have H1 : (spec_SketchOK.l0 kj1 0 a0_0 l0_1) = some r := by rw [if_neg (show ¬ (false = true) by decide)] at H; exact H
    clear H
    have H := H1
    clear H1
    have H' := zA H
    clear H
    go_wp2
    go_loopg [3] kj1 (fun kq v3 w' => ∃ (x3_2 : Int), v3 = .int .i64 x3_2 ∧ Aside0 (spec_SketchOK.l0 kq x3_2 a0_0 l0_1 = some r) ∧ Aside0 (kq ≤ kj1) ∧ Aside0 (w'.heap[gb229]? = some (.cells #[.int .i64 a0_0, (.slice A0_1 l0_1.length c0_1)] 25 (0, 0))) ∧ Aside0 (Below w.heap.size w w'))
    case atStart => exact ⟨(0), (by first | rfl | (simp; done) | (simp [*]; done)), H', ⟨Nat.le_refl _⟩, ⟨bA_ BK229⟩, ⟨bB_ HB⟩⟩
    case round =>
     clear H'
     try clear c1
     try clear p2
     try clear c4
     try clear c4b0
     try clear c6
     try clear c6b0
     try clear c9
     try clear hcz5_0
     try clear hcz5_1
     try clear hcz7_0
     try clear hcz7_1
     try clear hcz8_0
     try clear hcz8_1
     try clear hfz5_0
     try clear hfz5_1
     try clear hfz7_0
     try clear hfz7_1
     try clear hfz8_0
     try clear hfz8_1
     try clear p2
     obtain ⟨x3_2, rfl, HA, HK2, BK229, HB⟩ := hrel
     cases gk with
     | zero => exact absurd HA.out (by simp [spec_SketchOK.l0])
     | succ k2 =>
      have H := HA.out
      clear HA
      simp only [spec_SketchOK.l0] at H
      by_cases c10 : x3_2 < (l0_1.length : Int)
      ·rw [if_pos c10] at H
       have c10b0 : decide (x3_2 < (l0_1.length : Int)) = true := decide_eq_true c10
       clear c10
       by_cases c11 : 0 ≤ x3_2
       ·rw [if_pos c11] at H
        have c11b0 : decide (0 ≤ x3_2) = true := decide_eq_true c11
        clear c11
        have HC12 := zA H
        clear H
        have hcz13_0 : wr.cell? ⟨gb229, 0, none⟩ = some (.int .i64 a0_0) := (blk_cell BK229.out 0).trans rfl
        have hcz13_1 : wr.cell? ⟨gb229, 1, none⟩ = some (.slice A0_1 l0_1.length c0_1) := (blk_cell BK229.out 1).trans rfl
        have hfz13_0 := blk_frozen BK229.out 0
        have hfz13_1 := blk_frozen BK229.out 1
        have p230 : 0 ≤ (x3_2 : Int) := of_decide_eq_true (by first | (with_reducible assumption) | assumption)
        have q230 : x3_2 < (l0_1.length : Int) := of_decide_eq_true (by first | (with_reducible assumption) | assumption)
        obtain ⟨ad230, e230, hx230_0, hx230_1, hx230_2, hx230_3⟩ := at_T35 HR0_1.out x3_2 p230 q230
        cases e230
        replace hx230_0 := hb_ HB.out hx230_0
        replace hx230_1 := hb_ HB.out hx230_1
        replace hx230_2 := hb_ HB.out hx230_2
        replace hx230_3 := hb_ HB.out hx230_3
        replace p230 := eq_true p230
        replace q230 := eq_true q230
        go_upto_region 7 with (first | ((with_reducible refine gate_dst (N := 4) rfl ?_); (try (refine gate_guard (by rfl) ?_; dsimp only)); refine box_event ?hg (N := 4) ?hd (cs := #[.int .i64 0, .int .i64 0, .int .i64 0, .int .i64 0]) (t := 35) ?hr ?_; (case hd => rfl); (case hg => rfl); (case hr => first | (go_simp; done) | (go_simp; rfl)); intro gb231 hg w14 hbox hb; have n0_ := zA (blk_below (g := gb229) (o := .cells #[.int .i64 a0_0, .slice (some ad230) l0_1.length c0_1] 25 (0, 0)) (bA_ BK229) hb); have n1_ := zA (below_step (bB_ HB) hb); have n2_ := zA (hbox); have n3_ := zA ((by rw [hg]; exact (zT (bB_ HB)) : w.heap.size ≤ gb231)); have n4_ := zA ((by rw [hg]; exact (zT (bB_ HB)) : w.heap.size ≤ gb231)); have n5_ := zA ((by rw [hg]; exact Nat.ne_of_lt (blk_lt (g := gb229) (o := .cells #[.int .i64 a0_0, .slice (some ad230) l0_1.length c0_1] 25 (0, 0)) (bA_ BK229)) : gb229 ≠ gb231)); have n6_ := zA ((by rw [hg]; exact Nat.ne_of_gt (blk_lt (g := gb229) (o := .cells #[.int .i64 a0_0, .slice (some ad230) l0_1.length c0_1] 25 (0, 0)) (bA_ BK229)) : gb231 ≠ gb229)); clear BK229; clear HB; have BK229 := n0_; have HB := n1_; have BK231 := n2_; have GW231 := n3_; have GE231 := n4_; have NB229_231 := n5_; have NB231_229 := n6_; clear n0_ n1_ n2_ n3_ n4_ n5_ n6_; clear hb hbox hg; have hnb15 := NB231_229.out; have hnc15 := NB229_231.out; have hcz16_0 : w14.cell? ⟨gb231, 0, none⟩ = some (.int .i64 0) := (blk_cell BK231.out 0).trans rfl; have hcz16_1 : w14.cell? ⟨gb231, 1, none⟩ = some (.int .i64 0) := (blk_cell BK231.out 1).trans rfl; have hcz16_2 : w14.cell? ⟨gb231, 2, none⟩ = some (.int .i64 0) := (blk_cell BK231.out 2).trans rfl; have hcz16_3 : w14.cell? ⟨gb231, 3, none⟩ = some (.int .i64 0) := (blk_cell BK231.out 3).trans rfl; have hfz16_0 := blk_frozen BK231.out 0; have hfz16_1 := blk_frozen BK231.out 1; have hfz16_2 := blk_frozen BK231.out 2; have hfz16_3 := blk_frozen BK231.out 3))
        (try simp only [Act.put, zB, zC, zD])
        go_cut [52] (fun v52 wc => ∃ (kq : Nat) (x52_11 : Bool), v52 = .bool x52_11 ∧ Aside0 (spec_SketchOK.j2 kq x3_2 x52_11 a0_0 l0_1 ((rd_T35 l0_1 x3_2).f0) ((rd_T35 l0_1 x3_2).f1) ((rd_T35 l0_1 x3_2).f2) ((rd_T35 l0_1 x3_2).f3) = some r) ∧ Aside0 (kq ≤ k2) ∧ Aside0 (wc.heap[gb229]? = some (.cells #[.int .i64 a0_0, (.slice (some ad230) l0_1.length c0_1)] 25 (0, 0))) ∧ Aside0 (wc.heap[gb231]? = some (.cells #[.int .i64 ((rd_T35 l0_1 x3_2).f0), .int .i64 ((rd_T35 l0_1 x3_2).f1), .int .i64 ((rd_T35 l0_1 x3_2).f2), .int .i64 ((rd_T35 l0_1 x3_2).f3)] 35 (0, 0))) ∧ Aside0 (Below w.heap.size w wc))
        case first =>
         have H := HC12.out
         clear HC12
         by_cases c17 : ((rd_T35 l0_1 x3_2).f0) < 1
         ·rw [if_pos c17] at H
          have c17b0 : decide (((rd_T35 l0_1 x3_2).f0) < 1) = true := decide_eq_true c17
          clear c17
          (first | rw [c17b0] | (simp only [i64_w, i32_w]; rw [c17b0]) | skip)
          have H' := zA H
          clear H
          have hnb18 := NB231_229.out
          have hnc18 := NB229_231.out
          have hcz19_0 : w14.cell? ⟨gb231, 0, none⟩ = some (.int .i64 0) := (blk_cell BK231.out 0).trans rfl
          have hcz19_1 : w14.cell? ⟨gb231, 1, none⟩ = some (.int .i64 0) := (blk_cell BK231.out 1).trans rfl
          have hcz19_2 : w14.cell? ⟨gb231, 2, none⟩ = some (.int .i64 0) := (blk_cell BK231.out 2).trans rfl
          have hcz19_3 : w14.cell? ⟨gb231, 3, none⟩ = some (.int .i64 0) := (blk_cell BK231.out 3).trans rfl
          have hfz19_0 := blk_frozen BK231.out 0
          have hfz19_1 := blk_frozen BK231.out 1
          have hfz19_2 := blk_frozen BK231.out 2
          have hfz19_3 := blk_frozen BK231.out 3
          go_wp2
          go_meet
          case rel => exact ⟨_, (true), (by first | rfl | (simp; done) | (simp [*]; done)), H', ⟨by have := HJ1.out; have := HK2.out; first | omega | exact Nat.le_refl _⟩, ⟨bD_ BK229⟩, ⟨by (with_reducible repeat (first | refine zM ?_ _ | refine zN ?_ | refine zO ?_ _)); refine blk_put (cs := #[.int .i64 ((rd_T35 l0_1 x3_2).f0), .int .i64 ((rd_T35 l0_1 x3_2).f1), .int .i64 ((rd_T35 l0_1 x3_2).f2), .int .i64 0]) ?_ 3 _ rfl; (with_reducible repeat (first | refine zM ?_ _ | refine zN ?_ | refine zO ?_ _)); refine blk_put (cs := #[.int .i64 ((rd_T35 l0_1 x3_2).f0), .int .i64 ((rd_T35 l0_1 x3_2).f1), .int .i64 0, .int .i64 0]) ?_ 2 _ rfl; (with_reducible repeat (first | refine zM ?_ _ | refine zN ?_ | refine zO ?_ _)); refine blk_put (cs := #[.int .i64 ((rd_T35 l0_1 x3_2).f0), .int .i64 0, .int .i64 0, .int .i64 0]) ?_ 1 _ rfl; (with_reducible repeat (first | refine zM ?_ _ | refine zN ?_ | refine zO ?_ _)); refine blk_put (cs := #[.int .i64 0, .int .i64 0, .int .i64 0, .int .i64 0]) ?_ 0 _ rfl; (with_reducible repeat (first | refine zM ?_ _ | refine zN ?_ | refine zO ?_ _)); exact BK231.out⟩, ⟨bB_ HB⟩⟩
         ·rw [if_neg c17] at H
          have c17b0 : decide (((rd_T35 l0_1 x3_2).f0) < 1) = false := decide_eq_false c17
          clear c17
          (first | rw [c17b0] | (simp only [i64_w, i32_w]; rw [c17b0]) | skip)
          by_cases c20 : ((rd_T35 l0_1 x3_2).f0) > 9
          ·rw [if_pos c20] at H
           have c20b0 : decide (9 < ((rd_T35 l0_1 x3_2).f0)) = true := decide_eq_true c20
           clear c20
           have H' := zA H
           clear H
           have hnb21 := NB231_229.out
           have hnc21 := NB229_231.out
           have hcz22_0 : w14.cell? ⟨gb231, 0, none⟩ = some (.int .i64 0) := (blk_cell BK231.out 0).trans rfl
           have hcz22_1 : w14.cell? ⟨gb231, 1, none⟩ = some (.int .i64 0) := (blk_cell BK231.out 1).trans rfl
           have hcz22_2 : w14.cell? ⟨gb231, 2, none⟩ = some (.int .i64 0) := (blk_cell BK231.out 2).trans rfl
           have hcz22_3 : w14.cell? ⟨gb231, 3, none⟩ = some (.int .i64 0) := (blk_cell BK231.out 3).trans rfl
           have hfz22_0 := blk_frozen BK231.out 0
           have hfz22_1 := blk_frozen BK231.out 1
           have hfz22_2 := blk_frozen BK231.out 2
           have hfz22_3 := blk_frozen BK231.out 3
           go_wp2
           go_meet
           case rel => exact ⟨_, (true), (by first | rfl | (simp; done) | (simp [*]; done)), H', ⟨by have := HJ1.out; have := HK2.out; first | omega | exact Nat.le_refl _⟩, ⟨bD_ BK229⟩, ⟨by (with_reducible repeat (first | refine zM ?_ _ | refine zN ?_ | refine zO ?_ _)); refine blk_put (cs := #[.int .i64 ((rd_T35 l0_1 x3_2).f0), .int .i64 ((rd_T35 l0_1 x3_2).f1), .int .i64 ((rd_T35 l0_1 x3_2).f2), .int .i64 0]) ?_ 3 _ rfl; (with_reducible repeat (first | refine zM ?_ _ | refine zN ?_ | refine zO ?_ _)); refine blk_put (cs := #[.int .i64 ((rd_T35 l0_1 x3_2).f0), .int .i64 ((rd_T35 l0_1 x3_2).f1), .int .i64 0, .int .i64 0]) ?_ 2 _ rfl; (with_reducible repeat (first | refine zM ?_ _ | refine zN ?_ | refine zO ?_ _)); refine blk_put (cs := #[.int .i64 ((rd_T35 l0_1 x3_2).f0), .int .i64 0, .int .i64 0, .int .i64 0]) ?_ 1 _ rfl; (with_reducible repeat (first | refine zM ?_ _ | refine zN ?_ | refine zO ?_ _)); refine blk_put (cs := #[.int .i64 0, .int .i64 0, .int .i64 0, .int .i64 0]) ?_ 0 _ rfl; (with_reducible repeat (first | refine zM ?_ _ | refine zN ?_ | refine zO ?_ _)); exact BK231.out⟩, ⟨bB_ HB⟩⟩
          ·rw [if_neg c20] at H
           have c20b0 : decide (9 < ((rd_T35 l0_1 x3_2).f0)) = false := decide_eq_false c20
           clear c20
           by_cases c23 : ((rd_T35 l0_1 x3_2).f1) < 0
           ·rw [if_pos c23] at H
            have c23b0 : decide (((rd_T35 l0_1 x3_2).f1) < 0) = true := decide_eq_true c23
            clear c23
            have H' := zA H
            clear H
            have hnb24 := NB231_229.out
            have hnc24 := NB229_231.out
            have hcz25_0 : w14.cell? ⟨gb231, 0, none⟩ = some (.int .i64 0) := (blk_cell BK231.out 0).trans rfl
            have hcz25_1 : w14.cell? ⟨gb231, 1, none⟩ = some (.int .i64 0) := (blk_cell BK231.out 1).trans rfl
            have hcz25_2 : w14.cell? ⟨gb231, 2, none⟩ = some (.int .i64 0) := (blk_cell BK231.out 2).trans rfl
            have hcz25_3 : w14.cell? ⟨gb231, 3, none⟩ = some (.int .i64 0) := (blk_cell BK231.out 3).trans rfl
            have hfz25_0 := blk_frozen BK231.out 0
            have hfz25_1 := blk_frozen BK231.out 1
            have hfz25_2 := blk_frozen BK231.out 2
            have hfz25_3 := blk_frozen BK231.out 3
            go_wp2
            go_meet
            case rel => exact ⟨_, (true), (by first | rfl | (simp; done) | (simp [*]; done)), H', ⟨by have := HJ1.out; have := HK2.out; first | omega | exact Nat.le_refl _⟩, ⟨bD_ BK229⟩, ⟨by (with_reducible repeat (first | refine zM ?_ _ | refine zN ?_ | refine zO ?_ _)); refine blk_put (cs := #[.int .i64 ((rd_T35 l0_1 x3_2).f0), .int .i64 ((rd_T35 l0_1 x3_2).f1), .int .i64 ((rd_T35 l0_1 x3_2).f2), .int .i64 0]) ?_ 3 _ rfl; (with_reducible repeat (first | refine zM ?_ _ | refine zN ?_ | refine zO ?_ _)); refine blk_put (cs := #[.int .i64 ((rd_T35 l0_1 x3_2).f0), .int .i64 ((rd_T35 l0_1 x3_2).f1), .int .i64 0, .int .i64 0]) ?_ 2 _ rfl; (with_reducible repeat (first | refine zM ?_ _ | refine zN ?_ | refine zO ?_ _)); refine blk_put (cs := #[.int .i64 ((rd_T35 l0_1 x3_2).f0), .int .i64 0, .int .i64 0, .int .i64 0]) ?_ 1 _ rfl; (with_reducible repeat (first | refine zM ?_ _ | refine zN ?_ | refine zO ?_ _)); refine blk_put (cs := #[.int .i64 0, .int .i64 0, .int .i64 0, .int .i64 0]) ?_ 0 _ rfl; (with_reducible repeat (first | refine zM ?_ _ | refine zN ?_ | refine zO ?_ _)); exact BK231.out⟩, ⟨bB_ HB⟩⟩
           ·rw [if_neg c23] at H
            have c23b0 : decide (((rd_T35 l0_1 x3_2).f1) < 0) = false := decide_eq_false c23
            clear c23
            have H' := zA H
            clear H
            have hnb26 := NB231_229.out
            have hnc26 := NB229_231.out
            have hcz27_0 : w14.cell? ⟨gb231, 0, none⟩ = some (.int .i64 0) := (blk_cell BK231.out 0).trans rfl
            have hcz27_1 : w14.cell? ⟨gb231, 1, none⟩ = some (.int .i64 0) := (blk_cell BK231.out 1).trans rfl
            have hcz27_2 : w14.cell? ⟨gb231, 2, none⟩ = some (.int .i64 0) := (blk_cell BK231.out 2).trans rfl
            have hcz27_3 : w14.cell? ⟨gb231, 3, none⟩ = some (.int .i64 0) := (blk_cell BK231.out 3).trans rfl
            have hfz27_0 := blk_frozen BK231.out 0
            have hfz27_1 := blk_frozen BK231.out 1
            have hfz27_2 := blk_frozen BK231.out 2
            have hfz27_3 := blk_frozen BK231.out 3
            have hcz28_0 : w14.cell? ⟨gb229, 0, none⟩ = some (.int .i64 a0_0) := (blk_cell BK229.out 0).trans rfl
            have hcz28_1 : w14.cell? ⟨gb229, 1, none⟩ = some (.slice (some ad230) l0_1.length c0_1) := (blk_cell BK229.out 1).trans rfl
            have hfz28_0 := blk_frozen BK229.out 0
            have hfz28_1 := blk_frozen BK229.out 1
            go_wp2
            go_meet
            case rel => exact ⟨_, (decide (((rd_T35 l0_1 x3_2).f1) ≥ a0_0)), (by first | rfl | (simp; done) | (simp [*]; done)), H', ⟨by have := HJ1.out; have := HK2.out; first | omega | exact Nat.le_refl _⟩, ⟨bD_ BK229⟩, ⟨by (with_reducible repeat (first | refine zM ?_ _ | refine zN ?_ | refine zO ?_ _)); refine blk_put (cs := #[.int .i64 ((rd_T35 l0_1 x3_2).f0), .int .i64 ((rd_T35 l0_1 x3_2).f1), .int .i64 ((rd_T35 l0_1 x3_2).f2), .int .i64 0]) ?_ 3 _ rfl; (with_reducible repeat (first | refine zM ?_ _ | refine zN ?_ | refine zO ?_ _)); refine blk_put (cs := #[.int .i64 ((rd_T35 l0_1 x3_2).f0), .int .i64 ((rd_T35 l0_1 x3_2).f1), .int .i64 0, .int .i64 0]) ?_ 2 _ rfl; (with_reducible repeat (first | refine zM ?_ _ | refine zN ?_ | refine zO ?_ _)); refine blk_put (cs := #[.int .i64 ((rd_T35 l0_1 x3_2).f0), .int .i64 0, .int .i64 0, .int .i64 0]) ?_ 1 _ rfl; (with_reducible repeat (first | refine zM ?_ _ | refine zN ?_ | refine zO ?_ _)); refine blk_put (cs := #[.int .i64 0, .int .i64 0, .int .i64 0, .int .i64 0]) ?_ 0 _ rfl; (with_reducible repeat (first | refine zM ?_ _ | refine zN ?_ | refine zO ?_ _)); exact BK231.out⟩, ⟨bB_ HB⟩⟩
        case rest =>
         clear HC12
         try clear c1
         try clear c2
         try clear p2
         try clear q2
         try clear hx2
         try clear c4
         try clear c4b0
         try clear c6
         try clear c6b0
         try clear c9
         try clear c10
         try clear c10b0
         try clear c11
         try clear c11b0
         try clear c15
         try clear c16
         try clear c17
         try clear c17b0
         try clear c18
         try clear c20
         try clear c20b0
         try clear c21
         try clear c23
         try clear c23b0
         try clear p23
         try clear q23
         try clear hx23
         try clear c24
         try clear c26
         try clear hcz13_0
         try clear hcz13_1
         try clear hcz16_0
         try clear hcz16_1
         try clear hcz16_2
         try clear hcz16_3
         try clear hcz19_0
         try clear hcz19_1
         try clear hcz19_2
         try clear hcz19_3
         try clear hcz22_0
         try clear hcz22_1
         try clear hcz22_2
         try clear hcz22_3
         try clear hcz25_0
         try clear hcz25_1
         try clear hcz25_2
         try clear hcz25_3
         try clear hcz27_0
         try clear hcz27_1
         try clear hcz27_2
         try clear hcz27_3
         try clear hcz28_0
         try clear hcz28_1
         try clear hcz5_0
         try clear hcz5_1
         try clear hcz7_0
         try clear hcz7_1
         try clear hcz8_0
         try clear hcz8_1
         try clear hfz13_0
         try clear hfz13_1
         try clear hfz16_0
         try clear hfz16_1
         try clear hfz16_2
         try clear hfz16_3
         try clear hfz19_0
         try clear hfz19_1
         try clear hfz19_2
         try clear hfz19_3
         try clear hfz22_0
         try clear hfz22_1
         try clear hfz22_2
         try clear hfz22_3
         try clear hfz25_0
         try clear hfz25_1
         try clear hfz25_2
         try clear hfz25_3
         try clear hfz27_0
         try clear hfz27_1
         try clear hfz27_2
         try clear hfz27_3
         try clear hfz28_0
         try clear hfz28_1
         try clear hfz5_0
         try clear hfz5_1
         try clear hfz7_0
         try clear hfz7_1
         try clear hfz8_0
         try clear hfz8_1
         try clear hx230_0
         try clear hx230_1
         try clear hx230_2
         try clear hx230_3
         try clear p2
         try clear p230
         try clear q230
         obtain ⟨kq, x52_11, rfl, HA, HJ11, BK229, BK231, HB⟩ := hcut
         cases kq with
         | zero => exact absurd HA.out (by simp [spec_SketchOK.j2])
         | succ kj11 =>
          have H := HA.out
          clear HA
          simp only [spec_SketchOK.j2] at H
          by_cases c29 : x52_11 = true
          ·subst c29
           have H1 : (some false) = some r := by rw [if_pos rfl] at H; exact H
           clear H
           have H := H1
           clear H1
           obtain rfl := Option.some.inj H
           go_wp2
           go_ret
           exact ⟨by first | rfl | (simp [errW_none, errW_some] <;> rfl) | (simp [*, errW_none, errW_some] <;> rfl), bB_ HB⟩
          ·replace c29 := Bool.eq_false_iff.mpr c29
           subst c29
           have H1 : ((spec_l04Wants.f ((rd_T35 l0_1 x3_2).f0)).bind fun bt232 => (if bt232.1 = true then (if ((rd_T35 l0_1 x3_2).f2) < 0 then (spec_SketchOK.j3 kj11 x3_2 bt232.2 true a0_0 l0_1 ((rd_T35 l0_1 x3_2).f0) ((rd_T35 l0_1 x3_2).f1) ((rd_T35 l0_1 x3_2).f2) ((rd_T35 l0_1 x3_2).f3)) else (if ((rd_T35 l0_1 x3_2).f2) ≥ a0_0 then (spec_SketchOK.j3 kj11 x3_2 bt232.2 true a0_0 l0_1 ((rd_T35 l0_1 x3_2).f0) ((rd_T35 l0_1 x3_2).f1) ((rd_T35 l0_1 x3_2).f2) ((rd_T35 l0_1 x3_2).f3)) else (spec_SketchOK.j3 kj11 x3_2 bt232.2 false a0_0 l0_1 ((rd_T35 l0_1 x3_2).f0) ((rd_T35 l0_1 x3_2).f1) ((rd_T35 l0_1 x3_2).f2) ((rd_T35 l0_1 x3_2).f3)))) else (spec_SketchOK.j3 kj11 x3_2 bt232.2 (((rd_T35 l0_1 x3_2).f2) != 0) a0_0 l0_1 ((rd_T35 l0_1 x3_2).f0) ((rd_T35 l0_1 x3_2).f1) ((rd_T35 l0_1 x3_2).f2) ((rd_T35 l0_1 x3_2).f3)))) = some r := by rw [if_neg (show ¬ (false = true) by decide)] at H; exact H
           clear H
           have H := H1
           clear H1
           replace H := Option.bind_eq_some_iff.mp H
           obtain ⟨⟨t232, t233⟩, A300, H⟩ := H
           replace H : (if t232 = true then (if ((rd_T35 l0_1 x3_2).f2) < 0 then (spec_SketchOK.j3 kj11 x3_2 t233 true a0_0 l0_1 ((rd_T35 l0_1 x3_2).f0) ((rd_T35 l0_1 x3_2).f1) ((rd_T35 l0_1 x3_2).f2) ((rd_T35 l0_1 x3_2).f3)) else (if ((rd_T35 l0_1 x3_2).f2) ≥ a0_0 then (spec_SketchOK.j3 kj11 x3_2 t233 true a0_0 l0_1 ((rd_T35 l0_1 x3_2).f0) ((rd_T35 l0_1 x3_2).f1) ((rd_T35 l0_1 x3_2).f2) ((rd_T35 l0_1 x3_2).f3)) else (spec_SketchOK.j3 kj11 x3_2 t233 false a0_0 l0_1 ((rd_T35 l0_1 x3_2).f0) ((rd_T35 l0_1 x3_2).f1) ((rd_T35 l0_1 x3_2).f2) ((rd_T35 l0_1 x3_2).f3)))) else (spec_SketchOK.j3 kj11 x3_2 t233 (((rd_T35 l0_1 x3_2).f2) != 0) a0_0 l0_1 ((rd_T35 l0_1 x3_2).f0) ((rd_T35 l0_1 x3_2).f1) ((rd_T35 l0_1 x3_2).f2) ((rd_T35 l0_1 x3_2).f3))) = some r := H
           have A30 := zA A300
           clear A300
           have HC31 := zA H
           clear H
           have hnb32 := NB231_229.out
           have hnc32 := NB229_231.out
           have hcz33_0 : wc.cell? ⟨gb231, 0, none⟩ = some (.int .i64 ((rd_T35 l0_1 x3_2).f0)) := (blk_cell BK231.out 0).trans rfl
           have hcz33_1 : wc.cell? ⟨gb231, 1, none⟩ = some (.int .i64 ((rd_T35 l0_1 x3_2).f1)) := (blk_cell BK231.out 1).trans rfl
           have hcz33_2 : wc.cell? ⟨gb231, 2, none⟩ = some (.int .i64 ((rd_T35 l0_1 x3_2).f2)) := (blk_cell BK231.out 2).trans rfl
           have hcz33_3 : wc.cell? ⟨gb231, 3, none⟩ = some (.int .i64 ((rd_T35 l0_1 x3_2).f3)) := (blk_cell BK231.out 3).trans rfl
           have hfz33_0 := blk_frozen BK231.out 0
           have hfz33_1 := blk_frozen BK231.out 1
           have hfz33_2 := blk_frozen BK231.out 2
           have hfz33_3 := blk_frozen BK231.out 3
           go_upto_region 10 with (first | ((with_reducible refine gate_callee (f := 40) rfl ?_); refine goesL_ (some 56) rfl rfl Try.func40 (by kernel_rfl) rfl #[.int .i64 ((rd_T35 l0_1 x3_2).f0)] rfl (by (try simp only [List.map_toArray, List.map_cons, List.map_nil]); first | done | rfl | (simp only [List.length_drop, List.length_take]; rfl)) ?_; (with_reducible refine (spec_l04Wants.calls ((rd_T35 l0_1 x3_2).f0) t232 t233 _ A30.out).mono ?_); rintro e w' ⟨rfl, ⟨nd, rfl⟩⟩; refine ⟨_, rfl, ?_⟩))
           (try simp only [Act.put, zB, zC, zD])
           go_cut [80] (fun v80 wc => ∃ (kq : Nat) (x80_30 : Bool), v80 = .bool x80_30 ∧ Aside0 (spec_SketchOK.j3 kq x3_2 t233 x80_30 a0_0 l0_1 ((rd_T35 l0_1 x3_2).f0) ((rd_T35 l0_1 x3_2).f1) ((rd_T35 l0_1 x3_2).f2) ((rd_T35 l0_1 x3_2).f3) = some r) ∧ Aside0 (kq ≤ kj11) ∧ Aside0 (wc.heap[gb229]? = some (.cells #[.int .i64 a0_0, (.slice (some ad230) l0_1.length c0_1)] 25 (0, 0))) ∧ Aside0 (wc.heap[gb231]? = some (.cells #[.int .i64 ((rd_T35 l0_1 x3_2).f0), .int .i64 ((rd_T35 l0_1 x3_2).f1), .int .i64 ((rd_T35 l0_1 x3_2).f2), .int .i64 ((rd_T35 l0_1 x3_2).f3)] 35 (0, 0))) ∧ Aside0 (Below w.heap.size w wc))
           case first =>
            have H := HC31.out
            clear HC31
            by_cases c34 : t232 = true
            ·subst c34
             have H1 : (if ((rd_T35 l0_1 x3_2).f2) < 0 then (spec_SketchOK.j3 kj11 x3_2 t233 true a0_0 l0_1 ((rd_T35 l0_1 x3_2).f0) ((rd_T35 l0_1 x3_2).f1) ((rd_T35 l0_1 x3_2).f2) ((rd_T35 l0_1 x3_2).f3)) else (if ((rd_T35 l0_1 x3_2).f2) ≥ a0_0 then (spec_SketchOK.j3 kj11 x3_2 t233 true a0_0 l0_1 ((rd_T35 l0_1 x3_2).f0) ((rd_T35 l0_1 x3_2).f1) ((rd_T35 l0_1 x3_2).f2) ((rd_T35 l0_1 x3_2).f3)) else (spec_SketchOK.j3 kj11 x3_2 t233 false a0_0 l0_1 ((rd_T35 l0_1 x3_2).f0) ((rd_T35 l0_1 x3_2).f1) ((rd_T35 l0_1 x3_2).f2) ((rd_T35 l0_1 x3_2).f3)))) = some r := by rw [if_pos rfl] at H; exact H
             clear H
             have H := H1
             clear H1
             by_cases c35 : ((rd_T35 l0_1 x3_2).f2) < 0
             ·rw [if_pos c35] at H
              have c35b0 : decide (((rd_T35 l0_1 x3_2).f2) < 0) = true := decide_eq_true c35
              clear c35
              (first | rw [c35b0] | (simp only [i64_w, i32_w]; rw [c35b0]) | skip)
              have H' := zA H
              clear H
              have hnb36 := NB231_229.out
              have hnc36 := NB229_231.out
              have hcz37_0 : wc.cell? ⟨gb231, 0, none⟩ = some (.int .i64 ((rd_T35 l0_1 x3_2).f0)) := (blk_cell BK231.out 0).trans rfl
              have hcz37_1 : wc.cell? ⟨gb231, 1, none⟩ = some (.int .i64 ((rd_T35 l0_1 x3_2).f1)) := (blk_cell BK231.out 1).trans rfl
              have hcz37_2 : wc.cell? ⟨gb231, 2, none⟩ = some (.int .i64 ((rd_T35 l0_1 x3_2).f2)) := (blk_cell BK231.out 2).trans rfl
              have hcz37_3 : wc.cell? ⟨gb231, 3, none⟩ = some (.int .i64 ((rd_T35 l0_1 x3_2).f3)) := (blk_cell BK231.out 3).trans rfl
              have hfz37_0 := blk_frozen BK231.out 0
              have hfz37_1 := blk_frozen BK231.out 1
              have hfz37_2 := blk_frozen BK231.out 2
              have hfz37_3 := blk_frozen BK231.out 3
              go_wp2
              go_meet
              case rel => exact ⟨_, (true), (by first | rfl | (simp; done) | (simp [*]; done)), H', ⟨by have := HJ1.out; have := HK2.out; have := HJ11.out; first | omega | exact Nat.le_refl _⟩, ⟨bA_ BK229⟩, ⟨bA_ BK231⟩, ⟨bB_ HB⟩⟩
             ·rw [if_neg c35] at H
              have c35b0 : decide (((rd_T35 l0_1 x3_2).f2) < 0) = false := decide_eq_false c35
              clear c35
              (first | rw [c35b0] | (simp only [i64_w, i32_w]; rw [c35b0]) | skip)
              by_cases c38 : ((rd_T35 l0_1 x3_2).f2) ≥ a0_0
              ·rw [if_pos c38] at H
               have c38b0 : decide (a0_0 ≤ ((rd_T35 l0_1 x3_2).f2)) = true := decide_eq_true c38
               clear c38
               have H' := zA H
               clear H
               have hnb39 := NB231_229.out
               have hnc39 := NB229_231.out
               have hcz40_0 : wc.cell? ⟨gb231, 0, none⟩ = some (.int .i64 ((rd_T35 l0_1 x3_2).f0)) := (blk_cell BK231.out 0).trans rfl
               have hcz40_1 : wc.cell? ⟨gb231, 1, none⟩ = some (.int .i64 ((rd_T35 l0_1 x3_2).f1)) := (blk_cell BK231.out 1).trans rfl
               have hcz40_2 : wc.cell? ⟨gb231, 2, none⟩ = some (.int .i64 ((rd_T35 l0_1 x3_2).f2)) := (blk_cell BK231.out 2).trans rfl
               have hcz40_3 : wc.cell? ⟨gb231, 3, none⟩ = some (.int .i64 ((rd_T35 l0_1 x3_2).f3)) := (blk_cell BK231.out 3).trans rfl
               have hfz40_0 := blk_frozen BK231.out 0
               have hfz40_1 := blk_frozen BK231.out 1
               have hfz40_2 := blk_frozen BK231.out 2
               have hfz40_3 := blk_frozen BK231.out 3
               have hcz41_0 : wc.cell? ⟨gb229, 0, none⟩ = some (.int .i64 a0_0) := (blk_cell BK229.out 0).trans rfl
               have hcz41_1 : wc.cell? ⟨gb229, 1, none⟩ = some (.slice (some ad230) l0_1.length c0_1) := (blk_cell BK229.out 1).trans rfl
               have hfz41_0 := blk_frozen BK229.out 0
               have hfz41_1 := blk_frozen BK229.out 1
               go_wp2
               go_meet
               case rel => exact ⟨_, (true), (by first | rfl | (simp; done) | (simp [*]; done)), H', ⟨by have := HJ1.out; have := HK2.out; have := HJ11.out; first | omega | exact Nat.le_refl _⟩, ⟨bA_ BK229⟩, ⟨bA_ BK231⟩, ⟨bB_ HB⟩⟩
              ·rw [if_neg c38] at H
               have c38b0 : decide (a0_0 ≤ ((rd_T35 l0_1 x3_2).f2)) = false := decide_eq_false c38
               clear c38
               have H' := zA H
               clear H
               have hnb42 := NB231_229.out
               have hnc42 := NB229_231.out
               have hcz43_0 : wc.cell? ⟨gb231, 0, none⟩ = some (.int .i64 ((rd_T35 l0_1 x3_2).f0)) := (blk_cell BK231.out 0).trans rfl
               have hcz43_1 : wc.cell? ⟨gb231, 1, none⟩ = some (.int .i64 ((rd_T35 l0_1 x3_2).f1)) := (blk_cell BK231.out 1).trans rfl
               have hcz43_2 : wc.cell? ⟨gb231, 2, none⟩ = some (.int .i64 ((rd_T35 l0_1 x3_2).f2)) := (blk_cell BK231.out 2).trans rfl
               have hcz43_3 : wc.cell? ⟨gb231, 3, none⟩ = some (.int .i64 ((rd_T35 l0_1 x3_2).f3)) := (blk_cell BK231.out 3).trans rfl
               have hfz43_0 := blk_frozen BK231.out 0
               have hfz43_1 := blk_frozen BK231.out 1
               have hfz43_2 := blk_frozen BK231.out 2
               have hfz43_3 := blk_frozen BK231.out 3
               have hcz44_0 : wc.cell? ⟨gb229, 0, none⟩ = some (.int .i64 a0_0) := (blk_cell BK229.out 0).trans rfl
               have hcz44_1 : wc.cell? ⟨gb229, 1, none⟩ = some (.slice (some ad230) l0_1.length c0_1) := (blk_cell BK229.out 1).trans rfl
               have hfz44_0 := blk_frozen BK229.out 0
               have hfz44_1 := blk_frozen BK229.out 1
               go_wp2
               go_meet
               case rel => exact ⟨_, (false), (by first | rfl | (simp; done) | (simp [*]; done)), H', ⟨by have := HJ1.out; have := HK2.out; have := HJ11.out; first | omega | exact Nat.le_refl _⟩, ⟨bA_ BK229⟩, ⟨bA_ BK231⟩, ⟨bB_ HB⟩⟩
            ·replace c34 := Bool.eq_false_iff.mpr c34
             subst c34
             have H1 : (spec_SketchOK.j3 kj11 x3_2 t233 (((rd_T35 l0_1 x3_2).f2) != 0) a0_0 l0_1 ((rd_T35 l0_1 x3_2).f0) ((rd_T35 l0_1 x3_2).f1) ((rd_T35 l0_1 x3_2).f2) ((rd_T35 l0_1 x3_2).f3)) = some r := by rw [if_neg (show ¬ (false = true) by decide)] at H; exact H
             clear H
             have H := H1
             clear H1
             have H' := zA H
             clear H
             have hnb45 := NB231_229.out
             have hnc45 := NB229_231.out
             have hcz46_0 : wc.cell? ⟨gb231, 0, none⟩ = some (.int .i64 ((rd_T35 l0_1 x3_2).f0)) := (blk_cell BK231.out 0).trans rfl
             have hcz46_1 : wc.cell? ⟨gb231, 1, none⟩ = some (.int .i64 ((rd_T35 l0_1 x3_2).f1)) := (blk_cell BK231.out 1).trans rfl
             have hcz46_2 : wc.cell? ⟨gb231, 2, none⟩ = some (.int .i64 ((rd_T35 l0_1 x3_2).f2)) := (blk_cell BK231.out 2).trans rfl
             have hcz46_3 : wc.cell? ⟨gb231, 3, none⟩ = some (.int .i64 ((rd_T35 l0_1 x3_2).f3)) := (blk_cell BK231.out 3).trans rfl
             have hfz46_0 := blk_frozen BK231.out 0
             have hfz46_1 := blk_frozen BK231.out 1
             have hfz46_2 := blk_frozen BK231.out 2
             have hfz46_3 := blk_frozen BK231.out 3
             go_wp2
             go_meet
             case rel => exact ⟨_, ((((rd_T35 l0_1 x3_2).f2) != 0)), (by first | rfl | (simp; done) | (simp [*]; done)), H', ⟨by have := HJ1.out; have := HK2.out; have := HJ11.out; first | omega | exact Nat.le_refl _⟩, ⟨bA_ BK229⟩, ⟨bA_ BK231⟩, ⟨bB_ HB⟩⟩
           case rest =>
            clear HC31
            try clear c1
            try clear c2
            try clear p2
            try clear q2
            try clear hx2
            try clear c3
            try clear c4
            try clear c4b0
            try clear c6
            try clear c6b0
            try clear c9
            try clear c10
            try clear c10b0
            try clear c11
            try clear c11b0
            try clear c15
            try clear c16
            try clear c17
            try clear c17b0
            try clear c18
            try clear c20
            try clear c20b0
            try clear c21
            try clear c23
            try clear c23b0
            try clear p23
            try clear q23
            try clear hx23
            try clear c24
            try clear c26
            try clear c29
            try clear c32
            try clear c34
            try clear c35
            try clear c35b0
            try clear c36
            try clear c38
            try clear c38b0
            try clear c39
            try clear c40
            try clear c42
            try clear c45
            try clear hcz13_0
            try clear hcz13_1
            try clear hcz16_0
            try clear hcz16_1
            try clear hcz16_2
            try clear hcz16_3
            try clear hcz19_0
            try clear hcz19_1
            try clear hcz19_2
            try clear hcz19_3
            try clear hcz22_0
            try clear hcz22_1
            try clear hcz22_2
            try clear hcz22_3
            try clear hcz25_0
            try clear hcz25_1
            try clear hcz25_2
            try clear hcz25_3
            try clear hcz27_0
            try clear hcz27_1
            try clear hcz27_2
            try clear hcz27_3
            try clear hcz28_0
            try clear hcz28_1
            try clear hcz33_0
            try clear hcz33_1
            try clear hcz33_2
            try clear hcz33_3
            try clear hcz37_0
            try clear hcz37_1
            try clear hcz37_2
            try clear hcz37_3
            try clear hcz40_0
            try clear hcz40_1
            try clear hcz40_2
            try clear hcz40_3
            try clear hcz41_0
            try clear hcz41_1
            try clear hcz43_0
            try clear hcz43_1
            try clear hcz43_2
            try clear hcz43_3
            try clear hcz44_0
            try clear hcz44_1
            try clear hcz46_0
            try clear hcz46_1
            try clear hcz46_2
            try clear hcz46_3
            try clear hcz5_0
            try clear hcz5_1
            try clear hcz7_0
            try clear hcz7_1
            try clear hcz8_0
            try clear hcz8_1
            try clear hfz13_0
            try clear hfz13_1
            try clear hfz16_0
            try clear hfz16_1
            try clear hfz16_2
            try clear hfz16_3
            try clear hfz19_0
            try clear hfz19_1
            try clear hfz19_2
            try clear hfz19_3
            try clear hfz22_0
            try clear hfz22_1
            try clear hfz22_2
            try clear hfz22_3
            try clear hfz25_0
            try clear hfz25_1
            try clear hfz25_2
            try clear hfz25_3
            try clear hfz27_0
            try clear hfz27_1
            try clear hfz27_2
            try clear hfz27_3
            try clear hfz28_0
            try clear hfz28_1
            try clear hfz33_0
            try clear hfz33_1
            try clear hfz33_2
            try clear hfz33_3
            try clear hfz37_0
            try clear hfz37_1
            try clear hfz37_2
            try clear hfz37_3
            try clear hfz40_0
            try clear hfz40_1
            try clear hfz40_2
            try clear hfz40_3
            try clear hfz41_0
            try clear hfz41_1
            try clear hfz43_0
            try clear hfz43_1
            try clear hfz43_2
            try clear hfz43_3
            try clear hfz44_0
            try clear hfz44_1
            try clear hfz46_0
            try clear hfz46_1
            try clear hfz46_2
            try clear hfz46_3
            try clear hfz5_0
            try clear hfz5_1
            try clear hfz7_0
            try clear hfz7_1
            try clear hfz8_0
            try clear hfz8_1
            try clear hx230_0
            try clear hx230_1
            try clear hx230_2
            try clear hx230_3
            try clear p2
            try clear p23
            try clear p230
            try clear q2
            try clear q23
            try clear q230
            obtain ⟨kq, x80_30, rfl, HA, HJ30, BK229, BK231, HB⟩ := hcut
            cases kq with
            | zero => exact absurd HA.out (by simp [spec_SketchOK.j3])
            | succ kj30 =>
             have H := HA.out
             clear HA
             simp only [spec_SketchOK.j3] at H
             by_cases c47 : x80_30 = true
             ·subst c47
              have H1 : (some false) = some r := by rw [if_pos rfl] at H; exact H
              clear H
              have H := H1
              clear H1
              obtain rfl := Option.some.inj H
              go_wp2
              go_ret
              exact ⟨by first | rfl | (simp [errW_none, errW_some] <;> rfl) | (simp [*, errW_none, errW_some] <;> rfl), bB_ HB⟩
             ·replace c47 := Bool.eq_false_iff.mpr c47
              subst c47
              have H1 : (if t233 = true then (if ((rd_T35 l0_1 x3_2).f3) < (-100000) then (some false) else (if ((rd_T35 l0_1 x3_2).f3) > 100000 then (some false) else (spec_SketchOK.l0 kj30 (wrap64 (x3_2 + 1)) a0_0 l0_1))) else (if ((rd_T35 l0_1 x3_2).f3) = 0 then (spec_SketchOK.l0 kj30 (wrap64 (x3_2 + 1)) a0_0 l0_1) else (some false))) = some r := by rw [if_neg (show ¬ (false = true) by decide)] at H; exact H
              clear H
              have H := H1
              clear H1
              by_cases c48 : t233 = true
              ·subst c48
               have H1 : (if ((rd_T35 l0_1 x3_2).f3) < (-100000) then (some false) else (if ((rd_T35 l0_1 x3_2).f3) > 100000 then (some false) else (spec_SketchOK.l0 kj30 (wrap64 (x3_2 + 1)) a0_0 l0_1))) = some r := by rw [if_pos rfl] at H; exact H
               clear H
               have H := H1
               clear H1
               by_cases c49 : ((rd_T35 l0_1 x3_2).f3) < (-100000)
               ·rw [if_pos c49] at H
                have c49b0 : decide (((rd_T35 l0_1 x3_2).f3) < (-100000)) = true := decide_eq_true c49
                clear c49
                obtain rfl := Option.some.inj H
                have hnb50 := NB231_229.out
                have hnc50 := NB229_231.out
                have hcz51_0 : wc.cell? ⟨gb231, 0, none⟩ = some (.int .i64 ((rd_T35 l0_1 x3_2).f0)) := (blk_cell BK231.out 0).trans rfl
                have hcz51_1 : wc.cell? ⟨gb231, 1, none⟩ = some (.int .i64 ((rd_T35 l0_1 x3_2).f1)) := (blk_cell BK231.out 1).trans rfl
                have hcz51_2 : wc.cell? ⟨gb231, 2, none⟩ = some (.int .i64 ((rd_T35 l0_1 x3_2).f2)) := (blk_cell BK231.out 2).trans rfl
                have hcz51_3 : wc.cell? ⟨gb231, 3, none⟩ = some (.int .i64 ((rd_T35 l0_1 x3_2).f3)) := (blk_cell BK231.out 3).trans rfl
                have hfz51_0 := blk_frozen BK231.out 0
                have hfz51_1 := blk_frozen BK231.out 1
                have hfz51_2 := blk_frozen BK231.out 2
                have hfz51_3 := blk_frozen BK231.out 3
                go_wp2
                go_ret
                exact ⟨by first | rfl | (simp [errW_none, errW_some] <;> rfl) | (simp [*, errW_none, errW_some] <;> rfl), bB_ HB⟩
               ·rw [if_neg c49] at H
                have c49b0 : decide (((rd_T35 l0_1 x3_2).f3) < (-100000)) = false := decide_eq_false c49
                clear c49
                by_cases c52 : ((rd_T35 l0_1 x3_2).f3) > 100000
                ·rw [if_pos c52] at H
                 have c52b0 : decide (100000 < ((rd_T35 l0_1 x3_2).f3)) = true := decide_eq_true c52
                 clear c52
                 obtain rfl := Option.some.inj H
                 have hnb53 := NB231_229.out
                 have hnc53 := NB229_231.out
                 have hcz54_0 : wc.cell? ⟨gb231, 0, none⟩ = some (.int .i64 ((rd_T35 l0_1 x3_2).f0)) := (blk_cell BK231.out 0).trans rfl
                 have hcz54_1 : wc.cell? ⟨gb231, 1, none⟩ = some (.int .i64 ((rd_T35 l0_1 x3_2).f1)) := (blk_cell BK231.out 1).trans rfl
                 have hcz54_2 : wc.cell? ⟨gb231, 2, none⟩ = some (.int .i64 ((rd_T35 l0_1 x3_2).f2)) := (blk_cell BK231.out 2).trans rfl
                 have hcz54_3 : wc.cell? ⟨gb231, 3, none⟩ = some (.int .i64 ((rd_T35 l0_1 x3_2).f3)) := (blk_cell BK231.out 3).trans rfl
                 have hfz54_0 := blk_frozen BK231.out 0
                 have hfz54_1 := blk_frozen BK231.out 1
                 have hfz54_2 := blk_frozen BK231.out 2
                 have hfz54_3 := blk_frozen BK231.out 3
                 go_wp2
                 go_ret
                 exact ⟨by first | rfl | (simp [errW_none, errW_some] <;> rfl) | (simp [*, errW_none, errW_some] <;> rfl), bB_ HB⟩
                ·rw [if_neg c52] at H
                 have c52b0 : decide (100000 < ((rd_T35 l0_1 x3_2).f3)) = false := decide_eq_false c52
                 clear c52
                 have H' := zA H
                 clear H
                 have hnb55 := NB231_229.out
                 have hnc55 := NB229_231.out
                 have hcz56_0 : wc.cell? ⟨gb231, 0, none⟩ = some (.int .i64 ((rd_T35 l0_1 x3_2).f0)) := (blk_cell BK231.out 0).trans rfl
                 have hcz56_1 : wc.cell? ⟨gb231, 1, none⟩ = some (.int .i64 ((rd_T35 l0_1 x3_2).f1)) := (blk_cell BK231.out 1).trans rfl
                 have hcz56_2 : wc.cell? ⟨gb231, 2, none⟩ = some (.int .i64 ((rd_T35 l0_1 x3_2).f2)) := (blk_cell BK231.out 2).trans rfl
                 have hcz56_3 : wc.cell? ⟨gb231, 3, none⟩ = some (.int .i64 ((rd_T35 l0_1 x3_2).f3)) := (blk_cell BK231.out 3).trans rfl
                 have hfz56_0 := blk_frozen BK231.out 0
                 have hfz56_1 := blk_frozen BK231.out 1
                 have hfz56_2 := blk_frozen BK231.out 2
                 have hfz56_3 := blk_frozen BK231.out 3
                 go_wp2
                 go_roundg kj30
                 case measure => have := HJ1.out; have := HK2.out; have := HJ11.out; have := HJ30.out; omega
                 case rel => exact ⟨(wrap64 (x3_2 + 1)), (by first | rfl | (simp; done) | (simp [*]; done)), H', ⟨by have := HJ1.out; have := HK2.out; have := HJ11.out; have := HJ30.out; omega⟩, ⟨bA_ BK229⟩, ⟨bB_ HB⟩⟩
              ·replace c48 := Bool.eq_false_iff.mpr c48
               subst c48
               have H1 : (if ((rd_T35 l0_1 x3_2).f3) = 0 then (spec_SketchOK.l0 kj30 (wrap64 (x3_2 + 1)) a0_0 l0_1) else (some false)) = some r := by rw [if_neg (show ¬ (false = true) by decide)] at H; exact H
               clear H
               have H := H1
               clear H1
               by_cases c57 : ((rd_T35 l0_1 x3_2).f3) = 0
               ·rw [if_pos c57] at H
                have c57b0 : (((rd_T35 l0_1 x3_2).f3) == 0) = true := beq_iff_eq.mpr c57
                have c57b1 : (((rd_T35 l0_1 x3_2).f3) != 0) = false := bne_eq_false_iff_eq.mpr c57
                clear c57
                have H' := zA H
                clear H
                have hnb58 := NB231_229.out
                have hnc58 := NB229_231.out
                have hcz59_0 : wc.cell? ⟨gb231, 0, none⟩ = some (.int .i64 ((rd_T35 l0_1 x3_2).f0)) := (blk_cell BK231.out 0).trans rfl
                have hcz59_1 : wc.cell? ⟨gb231, 1, none⟩ = some (.int .i64 ((rd_T35 l0_1 x3_2).f1)) := (blk_cell BK231.out 1).trans rfl
                have hcz59_2 : wc.cell? ⟨gb231, 2, none⟩ = some (.int .i64 ((rd_T35 l0_1 x3_2).f2)) := (blk_cell BK231.out 2).trans rfl
                have hcz59_3 : wc.cell? ⟨gb231, 3, none⟩ = some (.int .i64 ((rd_T35 l0_1 x3_2).f3)) := (blk_cell BK231.out 3).trans rfl
                have hfz59_0 := blk_frozen BK231.out 0
                have hfz59_1 := blk_frozen BK231.out 1
                have hfz59_2 := blk_frozen BK231.out 2
                have hfz59_3 := blk_frozen BK231.out 3
                go_wp2
                go_roundg kj30
                case measure => have := HJ1.out; have := HK2.out; have := HJ11.out; have := HJ30.out; omega
                case rel => exact ⟨(wrap64 (x3_2 + 1)), (by first | rfl | (simp; done) | (simp [*]; done)), H', ⟨by have := HJ1.out; have := HK2.out; have := HJ11.out; have := HJ30.out; omega⟩, ⟨bA_ BK229⟩, ⟨bB_ HB⟩⟩
               ·rw [if_neg c57] at H
                have c57b0 : (((rd_T35 l0_1 x3_2).f3) == 0) = false := beq_eq_false_iff_ne.mpr c57
                have c57b1 : (((rd_T35 l0_1 x3_2).f3) != 0) = true := bne_iff_ne.mpr c57
                obtain rfl := Option.some.inj H
                have hnb60 := NB231_229.out
                have hnc60 := NB229_231.out
                have hcz61_0 : wc.cell? ⟨gb231, 0, none⟩ = some (.int .i64 ((rd_T35 l0_1 x3_2).f0)) := (blk_cell BK231.out 0).trans rfl
                have hcz61_1 : wc.cell? ⟨gb231, 1, none⟩ = some (.int .i64 ((rd_T35 l0_1 x3_2).f1)) := (blk_cell BK231.out 1).trans rfl
                have hcz61_2 : wc.cell? ⟨gb231, 2, none⟩ = some (.int .i64 ((rd_T35 l0_1 x3_2).f2)) := (blk_cell BK231.out 2).trans rfl
                have hcz61_3 : wc.cell? ⟨gb231, 3, none⟩ = some (.int .i64 ((rd_T35 l0_1 x3_2).f3)) := (blk_cell BK231.out 3).trans rfl
                have hfz61_0 := blk_frozen BK231.out 0
                have hfz61_1 := blk_frozen BK231.out 1
                have hfz61_2 := blk_frozen BK231.out 2
                have hfz61_3 := blk_frozen BK231.out 3
                go_wp2
                go_ret
                exact ⟨by first | rfl | (simp [errW_none, errW_some] <;> rfl) | (simp [*, errW_none, errW_some] <;> rfl), bB_ HB⟩
       ·rw [if_neg c11] at H
        exact absurd H (by simp)
      ·rw [if_neg c10] at H
       have c10b0 : decide (x3_2 < (l0_1.length : Int)) = false := decide_eq_false c10
       clear c10
       obtain rfl := Option.some.inj H
       have hcz62_0 : wr.cell? ⟨gb229, 0, none⟩ = some (.int .i64 a0_0) := (blk_cell BK229.out 0).trans rfl
       have hcz62_1 : wr.cell? ⟨gb229, 1, none⟩ = some (.slice A0_1 l0_1.length c0_1) := (blk_cell BK229.out 1).trans rfl
       have hfz62_0 := blk_frozen BK229.out 0
       have hfz62_1 := blk_frozen BK229.out 1
       go_wp2
       go_ret
       exact ⟨by first | rfl | (simp [errW_none, errW_some] <;> rfl) | (simp [*, errW_none, errW_some] <;> rfl), bB_ HB⟩

end Go.Proofs.Ytnbkdfnlggmopaa.PFnExactSketchMove
