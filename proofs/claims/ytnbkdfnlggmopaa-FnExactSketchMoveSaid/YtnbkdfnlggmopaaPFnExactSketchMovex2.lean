/- Written for this claim by a program of this session: the functions that the law reaches, each with its contract. -/
import Derived.Test.YtnbkdfnlggmopaaPFnExactSketchMovex0
namespace Go.Proofs.Ytnbkdfnlggmopaa.PFnExactSketchMove
open Go.RowKit Go.Proofs.YtnbkdfnlggmopaaW.PrintWords Go.Proofs.YtnbkdfnlggmopaaW.PrintLast Go.Proofs.YtnbkdfnlggmopaaW.PrintMore
open Go.Proofs.YtnbkdfnlggmopaaW.PrintWords.Aside0 renaming mk → zA
open List renaming setIfInBounds_toArray → zB, set_cons_zero → zC, set_cons_succ → zD
open Go.Proofs.YtnbkdfnlggmopaaW.PrintWords renaming blk_drewN → zM, blk_drew → zN, blk_alloc → zO, below_size → zT
attribute [local go_sem] i64_w max2_int min2_int max_two min_two max_three min_three max_four min_four
set_option linter.unusedVariables false
set_option linter.unusedSimpArgs false

mutual
def impl_SketchOK.j0 : Nat → Bool → Int → List (S35) → Option (Bool)
 | 0, _, _, _ => none
 | k + 1, x18, x130000, x130001 => if x18 = true then (some false) else (impl_SketchOK.l0 k x130001 (x130001.length : Int) 0 x130000 x130001)
def impl_SketchOK.l0 : Nat → List (S35) → Int → Int → Int → List (S35) → Option (Bool)
 | 0, _, _, _, _, _ => none
 | k + 1, x20, x21, x22, x130000, x130001 => if x22 < x21 then (if 0 ≤ x22 then (if x22 < (x20.length : Int) then (if ((rd_T35 x20 x22).f0) < 1 then (impl_SketchOK.j2 k x20 x21 x22 true x130000 x130001 ((rd_T35 x20 x22).f0) ((rd_T35 x20 x22).f1) ((rd_T35 x20 x22).f2) ((rd_T35 x20 x22).f3)) else (if ((rd_T35 x20 x22).f0) > 9 then (impl_SketchOK.j2 k x20 x21 x22 true x130000 x130001 ((rd_T35 x20 x22).f0) ((rd_T35 x20 x22).f1) ((rd_T35 x20 x22).f2) ((rd_T35 x20 x22).f3)) else (if ((rd_T35 x20 x22).f1) < 0 then (impl_SketchOK.j2 k x20 x21 x22 true x130000 x130001 ((rd_T35 x20 x22).f0) ((rd_T35 x20 x22).f1) ((rd_T35 x20 x22).f2) ((rd_T35 x20 x22).f3)) else (impl_SketchOK.j2 k x20 x21 x22 (decide (((rd_T35 x20 x22).f1) ≥ x130000)) x130000 x130001 ((rd_T35 x20 x22).f0) ((rd_T35 x20 x22).f1) ((rd_T35 x20 x22).f2) ((rd_T35 x20 x22).f3))))) else (none)) else (none)) else (some true)
def impl_SketchOK.j2 : Nat → List (S35) → Int → Int → Bool → Int → List (S35) → Int → Int → Int → Int → Option (Bool)
 | 0, _, _, _, _, _, _, _, _, _, _ => none
 | k + 1, x20, x21, x22, x45, x130000, x130001, x132000, x132001, x132002, x132003 => if x45 = true then (some false) else (if x132000 ≤ 2 then (if x132002 = 0 then (if x132002 < 0 then (impl_SketchOK.j3 k x20 x21 x22 true x130000 x130001 x132000 x132001 x132002 x132003) else (impl_SketchOK.j3 k x20 x21 x22 (decide (x132002 ≥ x130000)) x130000 x130001 x132000 x132001 x132002 x132003)) else (impl_SketchOK.j3 k x20 x21 x22 true x130000 x130001 x132000 x132001 x132002 x132003)) else (if x132002 < 0 then (impl_SketchOK.j3 k x20 x21 x22 true x130000 x130001 x132000 x132001 x132002 x132003) else (impl_SketchOK.j3 k x20 x21 x22 (decide (x132002 ≥ x130000)) x130000 x130001 x132000 x132001 x132002 x132003)))
def impl_SketchOK.j3 : Nat → List (S35) → Int → Int → Bool → Int → List (S35) → Int → Int → Int → Int → Option (Bool)
 | 0, _, _, _, _, _, _, _, _, _, _ => none
 | k + 1, x20, x21, x22, x65, x130000, x130001, x132000, x132001, x132002, x132003 => if x65 = true then (some false) else (if x132000 ≥ 7 then (if x132003 = 0 then (if x132003 < (-100000) then (some false) else (if x132003 > 100000 then (some false) else (impl_SketchOK.l0 k x20 x21 (wrap64 (x22 + 1)) x130000 x130001))) else (some false)) else (if x132003 < (-100000) then (some false) else (if x132003 > 100000 then (some false) else (impl_SketchOK.l0 k x20 x21 (wrap64 (x22 + 1)) x130000 x130001))))
end
def impl_SketchOK.f (k : Nat) (a0_0 : Int) (l0_1 : List (S35)) : Option (Bool) := if a0_0 < 1 then (impl_SketchOK.j0 k true a0_0 l0_1) else (if a0_0 > 24 then (impl_SketchOK.j0 k true a0_0 l0_1) else (impl_SketchOK.j0 k (decide ((l0_1.length : Int) > 60)) a0_0 l0_1))
theorem impl_SketchOK.mono_l : ∀ k, (∀ y0 y1 y2, LeO (impl_SketchOK.j0 k y0 y1 y2) (impl_SketchOK.j0 (k + 1) y0 y1 y2)) ∧ (∀ y0 y1 y2 y3 y4, LeO (impl_SketchOK.l0 k y0 y1 y2 y3 y4) (impl_SketchOK.l0 (k + 1) y0 y1 y2 y3 y4)) ∧ (∀ y0 y1 y2 y3 y4 y5 y6 y7 y8 y9, LeO (impl_SketchOK.j2 k y0 y1 y2 y3 y4 y5 y6 y7 y8 y9) (impl_SketchOK.j2 (k + 1) y0 y1 y2 y3 y4 y5 y6 y7 y8 y9)) ∧ (∀ y0 y1 y2 y3 y4 y5 y6 y7 y8 y9, LeO (impl_SketchOK.j3 k y0 y1 y2 y3 y4 y5 y6 y7 y8 y9) (impl_SketchOK.j3 (k + 1) y0 y1 y2 y3 y4 y5 y6 y7 y8 y9))
 | 0 => ⟨fun _ _ _ r h => by simp [impl_SketchOK.j0] at h, fun _ _ _ _ _ r h => by simp [impl_SketchOK.l0] at h, fun _ _ _ _ _ _ _ _ _ _ r h => by simp [impl_SketchOK.j2] at h, fun _ _ _ _ _ _ _ _ _ _ r h => by simp [impl_SketchOK.j3] at h⟩
 | k + 1 => by
  obtain ⟨ih0, ih1, ih2, ih3⟩ := impl_SketchOK.mono_l k
  refine ⟨?_, ?_, ?_, ?_⟩
  ·intro y0 y1 y2
   unfold impl_SketchOK.j0
   repeat' first
   | (with_reducible exact ih0 _ _ _)
   | (with_reducible exact ih1 _ _ _ _ _)
   | (with_reducible exact ih2 _ _ _ _ _ _ _ _ _ _)
   | (with_reducible exact ih3 _ _ _ _ _ _ _ _ _ _)
   | (with_reducible exact LeO.refl _)
   | (with_reducible exact LeO.none _)
   | (with_reducible refine LeO.ite ?_ ?_)
   | (with_reducible refine LeO.bind ?_ (fun _ => ?_))
   | exact ih0 _ _ _
   | exact ih1 _ _ _ _ _
   | exact ih2 _ _ _ _ _ _ _ _ _ _
   | exact ih3 _ _ _ _ _ _ _ _ _ _
   | exact LeO.none _
   | refine LeO.ite ?_ ?_
   | refine LeO.bind ?_ (fun _ => ?_)
  ·intro y0 y1 y2 y3 y4
   unfold impl_SketchOK.l0
   repeat' first
   | (with_reducible exact ih0 _ _ _)
   | (with_reducible exact ih1 _ _ _ _ _)
   | (with_reducible exact ih2 _ _ _ _ _ _ _ _ _ _)
   | (with_reducible exact ih3 _ _ _ _ _ _ _ _ _ _)
   | (with_reducible exact LeO.refl _)
   | (with_reducible exact LeO.none _)
   | (with_reducible refine LeO.ite ?_ ?_)
   | (with_reducible refine LeO.bind ?_ (fun _ => ?_))
   | exact ih0 _ _ _
   | exact ih1 _ _ _ _ _
   | exact ih2 _ _ _ _ _ _ _ _ _ _
   | exact ih3 _ _ _ _ _ _ _ _ _ _
   | exact LeO.none _
   | refine LeO.ite ?_ ?_
   | refine LeO.bind ?_ (fun _ => ?_)
  ·intro y0 y1 y2 y3 y4 y5 y6 y7 y8 y9
   unfold impl_SketchOK.j2
   repeat' first
   | (with_reducible exact ih0 _ _ _)
   | (with_reducible exact ih1 _ _ _ _ _)
   | (with_reducible exact ih2 _ _ _ _ _ _ _ _ _ _)
   | (with_reducible exact ih3 _ _ _ _ _ _ _ _ _ _)
   | (with_reducible exact LeO.refl _)
   | (with_reducible exact LeO.none _)
   | (with_reducible refine LeO.ite ?_ ?_)
   | (with_reducible refine LeO.bind ?_ (fun _ => ?_))
   | exact ih0 _ _ _
   | exact ih1 _ _ _ _ _
   | exact ih2 _ _ _ _ _ _ _ _ _ _
   | exact ih3 _ _ _ _ _ _ _ _ _ _
   | exact LeO.none _
   | refine LeO.ite ?_ ?_
   | refine LeO.bind ?_ (fun _ => ?_)
  ·intro y0 y1 y2 y3 y4 y5 y6 y7 y8 y9
   unfold impl_SketchOK.j3
   repeat' first
   | (with_reducible exact ih0 _ _ _)
   | (with_reducible exact ih1 _ _ _ _ _)
   | (with_reducible exact ih2 _ _ _ _ _ _ _ _ _ _)
   | (with_reducible exact ih3 _ _ _ _ _ _ _ _ _ _)
   | (with_reducible exact LeO.refl _)
   | (with_reducible exact LeO.none _)
   | (with_reducible refine LeO.ite ?_ ?_)
   | (with_reducible refine LeO.bind ?_ (fun _ => ?_))
   | exact ih0 _ _ _
   | exact ih1 _ _ _ _ _
   | exact ih2 _ _ _ _ _ _ _ _ _ _
   | exact ih3 _ _ _ _ _ _ _ _ _ _
   | exact LeO.none _
   | refine LeO.ite ?_ ?_
   | refine LeO.bind ?_ (fun _ => ?_)
theorem impl_SketchOK.mono : ∀ a0 a1 k, LeO (impl_SketchOK.f k a0 a1) (impl_SketchOK.f (k + 1) a0 a1) := by
 intro a0 a1 k
 obtain ⟨ih0, ih1, ih2, ih3⟩ := impl_SketchOK.mono_l k
 unfold impl_SketchOK.f
 repeat' first
   | (with_reducible exact ih0 _ _ _)
   | (with_reducible exact ih1 _ _ _ _ _)
   | (with_reducible exact ih2 _ _ _ _ _ _ _ _ _ _)
   | (with_reducible exact ih3 _ _ _ _ _ _ _ _ _ _)
   | (with_reducible exact LeO.refl _)
   | (with_reducible exact LeO.none _)
   | (with_reducible refine LeO.ite ?_ ?_)
   | (with_reducible refine LeO.bind ?_ (fun _ => ?_))
   | exact ih0 _ _ _
   | exact ih1 _ _ _ _ _
   | exact ih2 _ _ _ _ _ _ _ _ _ _
   | exact ih3 _ _ _ _ _ _ _ _ _ _
   | exact LeO.none _
   | refine LeO.ite ?_ ?_
   | refine LeO.bind ?_ (fun _ => ?_)
set_option maxHeartbeats 8000000 in
set_option maxRecDepth 100000 in
theorem impl_SketchOK.calls (k : Nat) (a0_0 : Int) (A0_1 : Option Addr) (c0_1 : Nat) (l0_1 : List (S35)) (r : Bool) (w : World) (hr0_1 : Kd.C k35 w A0_1 l0_1.length l0_1) (hc0_1 : l0_1.length ≤ c0_1) (h : impl_SketchOK.f k a0_0 l0_1 = some r) :
  Calls Try.prog 18 #[.agg #[.int .i64 a0_0, .slice A0_1 l0_1.length c0_1]] w fun e w' => e = .returned (.bool r) ∧ Below w.heap.size w w' := by
 have hu25 := Try.underlying25
 have hu35 := Try.underlying35
 have HR0_1 := zA hr0_1
 have HC0_1 := zA hc0_1
 clear hr0_1 hc0_1
 have HB := zA (Below.refl w.heap.size w)
 have H : (if a0_0 < 1 then (impl_SketchOK.j0 k true a0_0 l0_1) else (if a0_0 > 24 then (impl_SketchOK.j0 k true a0_0 l0_1) else (impl_SketchOK.j0 k (decide ((l0_1.length : Int) > 60)) a0_0 l0_1))) = some r := h
 clear h
 have HC2 := zA H
 clear H
 go_enter Try.func18, Try.ntmps18
 go_upto_region 1 with (first | ((with_reducible refine gate_dst (N := 1) rfl ?_); (try (refine gate_guard (by rfl) ?_; dsimp only)); refine box_event ?hg (N := 1) ?hd (cs := #[.int .i64 a0_0, .slice A0_1 l0_1.length c0_1]) (t := 25) ?hr ?_; (case hd => rfl); (case hg => rfl); (case hr => first | (go_simp; done) | (go_simp; rfl)); intro gb129 hg w3 hbox hb; have n0_ := zA (below_step (bB_ HB) hb); have n1_ := zA (hbox); have n2_ := zA ((by rw [hg]; exact (zT (bB_ HB)) : w.heap.size ≤ gb129)); have n3_ := zA ((by rw [hg]; exact (zT (bB_ HB)) : w.heap.size ≤ gb129)); clear HB; have HB := n0_; have BK129 := n1_; have GW129 := n2_; have GE129 := n3_; clear n0_ n1_ n2_ n3_; clear hb hbox hg))
 (try simp only [Act.put, zB, zC, zD])
 go_cut [18] (fun v18 wc => ∃ (kq : Nat) (x18_1 : Bool), v18 = .bool x18_1 ∧ Aside0 (impl_SketchOK.j0 kq x18_1 a0_0 l0_1 = some r) ∧ Aside0 (kq ≤ k) ∧ Aside0 (wc.heap[gb129]? = some (.cells #[.int .i64 a0_0, (.slice A0_1 l0_1.length c0_1)] 25 (0, 0))) ∧ Aside0 (Below w.heap.size w wc))
 case first =>
  have H := HC2.out
  clear HC2
  by_cases c4 : a0_0 < 1
  ·rw [if_pos c4] at H
   have c4b0 : decide (a0_0 < 1) = true := decide_eq_true c4
   clear c4
   (first | rw [c4b0] | (simp only [i64_w, i32_w]; rw [c4b0]) | skip)
   have H' := zA H
   clear H
   have hcz5_0 : w3.cell? ⟨gb129, 0, none⟩ = some (.int .i64 a0_0) := (blk_cell BK129.out 0).trans rfl
   have hcz5_1 : w3.cell? ⟨gb129, 1, none⟩ = some (.slice A0_1 l0_1.length c0_1) := (blk_cell BK129.out 1).trans rfl
   have hfz5_0 := blk_frozen BK129.out 0
   have hfz5_1 := blk_frozen BK129.out 1
   go_wp2
   go_meet
   case rel => exact ⟨_, (true), (by first | rfl | (simp; done) | (simp [*]; done)), H', ⟨by first | omega | exact Nat.le_refl _⟩, ⟨bA_ BK129⟩, ⟨bB_ HB⟩⟩
  ·rw [if_neg c4] at H
   have c4b0 : decide (a0_0 < 1) = false := decide_eq_false c4
   clear c4
   (first | rw [c4b0] | (simp only [i64_w, i32_w]; rw [c4b0]) | skip)
   by_cases c6 : a0_0 > 24
   ·rw [if_pos c6] at H
    have c6b0 : decide (24 < a0_0) = true := decide_eq_true c6
    clear c6
    have H' := zA H
    clear H
    have hcz7_0 : w3.cell? ⟨gb129, 0, none⟩ = some (.int .i64 a0_0) := (blk_cell BK129.out 0).trans rfl
    have hcz7_1 : w3.cell? ⟨gb129, 1, none⟩ = some (.slice A0_1 l0_1.length c0_1) := (blk_cell BK129.out 1).trans rfl
    have hfz7_0 := blk_frozen BK129.out 0
    have hfz7_1 := blk_frozen BK129.out 1
    go_wp2
    go_meet
    case rel => exact ⟨_, (true), (by first | rfl | (simp; done) | (simp [*]; done)), H', ⟨by first | omega | exact Nat.le_refl _⟩, ⟨bA_ BK129⟩, ⟨bB_ HB⟩⟩
   ·rw [if_neg c6] at H
    have c6b0 : decide (24 < a0_0) = false := decide_eq_false c6
    clear c6
    have H' := zA H
    clear H
    have hcz8_0 : w3.cell? ⟨gb129, 0, none⟩ = some (.int .i64 a0_0) := (blk_cell BK129.out 0).trans rfl
    have hcz8_1 : w3.cell? ⟨gb129, 1, none⟩ = some (.slice A0_1 l0_1.length c0_1) := (blk_cell BK129.out 1).trans rfl
    have hfz8_0 := blk_frozen BK129.out 0
    have hfz8_1 := blk_frozen BK129.out 1
    go_wp2
    go_meet
    case rel => exact ⟨_, (decide ((l0_1.length : Int) > 60)), (by first | rfl | (simp; done) | (simp [*]; done)), H', ⟨by first | omega | exact Nat.le_refl _⟩, ⟨bA_ BK129⟩, ⟨bB_ HB⟩⟩
 case rest =>
  clear HC2
  try clear c1
  try clear p2
  try clear c4
  try clear c4b0
  try clear c6
  try clear c6b0
  try clear hcz5_0
  try clear hcz5_1
  try clear hcz7_0
  try clear hcz7_1
  try clear hcz8_0
  try clear hcz8_1
  try clear hfz5_0
  try clear hfz5_1
  try clear hfz7_0
  try clear hfz7_1
  try clear hfz8_0
  try clear hfz8_1
  obtain ⟨kq, x18_1, rfl, HA, HJ1, BK129, HB⟩ := hcut
  cases kq with
  | zero => exact absurd HA.out (by simp [impl_SketchOK.j0])
  | succ kj1 =>
   have H := HA.out
   clear HA
   simp only [impl_SketchOK.j0] at H
   by_cases c9 : x18_1 = true
   ·subst c9
    have H1 : (some false) = some r := by rw [if_pos rfl] at H; exact H
    clear H
    have H := H1
    clear H1
    obtain rfl := Option.some.inj H
    go_wp2
    go_ret
    exact ⟨by first | rfl | (simp [errW_none, errW_some] <;> rfl) | (simp [*, errW_none, errW_some] <;> rfl), bB_ HB⟩
   ·replace c9 := Bool.eq_false_iff.mpr c9
    subst c9
    have H1 : (impl_SketchOK.l0 kj1 l0_1 (l0_1.length : Int) 0 a0_0 l0_1) = some r := by rw [if_neg (show ¬ (false = true) by decide)] at H; exact H
    clear H
    have H := H1
    clear H1
    have H' := zA H
    clear H
    have hcz10_0 : wc.cell? ⟨gb129, 0, none⟩ = some (.int .i64 a0_0) := (blk_cell BK129.out 0).trans rfl
    have hcz10_1 : wc.cell? ⟨gb129, 1, none⟩ = some (.slice A0_1 l0_1.length c0_1) := (blk_cell BK129.out 1).trans rfl
    have hfz10_0 := blk_frozen BK129.out 0
    have hfz10_1 := blk_frozen BK129.out 1
    go_wp2
    go_loopg [22] kj1 (fun kq v22 w' => ∃ (x22_2 : Int), v22 = .int .i64 x22_2 ∧ Aside0 (impl_SketchOK.l0 kq l0_1 (l0_1.length : Int) x22_2 a0_0 l0_1 = some r) ∧ Aside0 (kq ≤ kj1) ∧ Aside0 (w'.heap[gb129]? = some (.cells #[.int .i64 a0_0, (.slice A0_1 l0_1.length c0_1)] 25 (0, 0))) ∧ Aside0 (Below w.heap.size w w'))
    case atStart => exact ⟨(0), (by first | rfl | (simp; done) | (simp [*]; done)), H', ⟨Nat.le_refl _⟩, ⟨bA_ BK129⟩, ⟨bB_ HB⟩⟩
    case round =>
     clear H'
     try clear c1
     try clear p2
     try clear c4
     try clear c4b0
     try clear c6
     try clear c6b0
     try clear c9
     try clear hcz10_0
     try clear hcz10_1
     try clear hcz5_0
     try clear hcz5_1
     try clear hcz7_0
     try clear hcz7_1
     try clear hcz8_0
     try clear hcz8_1
     try clear hfz10_0
     try clear hfz10_1
     try clear hfz5_0
     try clear hfz5_1
     try clear hfz7_0
     try clear hfz7_1
     try clear hfz8_0
     try clear hfz8_1
     try clear p2
     obtain ⟨x22_2, rfl, HA, HK2, BK129, HB⟩ := hrel
     cases gk with
     | zero => exact absurd HA.out (by simp [impl_SketchOK.l0])
     | succ k2 =>
      have H := HA.out
      clear HA
      simp only [impl_SketchOK.l0] at H
      by_cases c11 : x22_2 < (l0_1.length : Int)
      ·rw [if_pos c11] at H
       have c11b0 : decide (x22_2 < (l0_1.length : Int)) = true := decide_eq_true c11
       clear c11
       by_cases c12 : 0 ≤ x22_2
       ·rw [if_pos c12] at H
        have c12b0 : decide (0 ≤ x22_2) = true := decide_eq_true c12
        clear c12
        by_cases c13 : x22_2 < (l0_1.length : Int)
        ·rw [if_pos c13] at H
         have c13b0 : decide (x22_2 < (l0_1.length : Int)) = true := decide_eq_true c13
         clear c13
         have HC14 := zA H
         clear H
         have p130 : 0 ≤ (x22_2 : Int) := of_decide_eq_true (by first | (with_reducible assumption) | assumption)
         have q130 : x22_2 < (l0_1.length : Int) := of_decide_eq_true (by first | (with_reducible assumption) | assumption)
         obtain ⟨ad130, e130, hx130_0, hx130_1, hx130_2, hx130_3⟩ := at_T35 HR0_1.out x22_2 p130 q130
         cases e130
         replace hx130_0 := hb_ HB.out hx130_0
         replace hx130_1 := hb_ HB.out hx130_1
         replace hx130_2 := hb_ HB.out hx130_2
         replace hx130_3 := hb_ HB.out hx130_3
         replace p130 := eq_true p130
         replace q130 := eq_true q130
         go_upto_region 6 with (first | ((with_reducible refine gate_dst (N := 4) rfl ?_); (try (refine gate_guard (by rfl) ?_; dsimp only)); refine box_event ?hg (N := 4) ?hd (cs := #[.int .i64 0, .int .i64 0, .int .i64 0, .int .i64 0]) (t := 35) ?hr ?_; (case hd => rfl); (case hg => rfl); (case hr => first | (go_simp; done) | (go_simp; rfl)); intro gb131 hg w15 hbox hb; have n0_ := zA (blk_below (g := gb129) (o := .cells #[.int .i64 a0_0, .slice (some ad130) l0_1.length c0_1] 25 (0, 0)) (bA_ BK129) hb); have n1_ := zA (below_step (bB_ HB) hb); have n2_ := zA (hbox); have n3_ := zA ((by rw [hg]; exact (zT (bB_ HB)) : w.heap.size ≤ gb131)); have n4_ := zA ((by rw [hg]; exact (zT (bB_ HB)) : w.heap.size ≤ gb131)); have n5_ := zA ((by rw [hg]; exact Nat.ne_of_lt (blk_lt (g := gb129) (o := .cells #[.int .i64 a0_0, .slice (some ad130) l0_1.length c0_1] 25 (0, 0)) (bA_ BK129)) : gb129 ≠ gb131)); have n6_ := zA ((by rw [hg]; exact Nat.ne_of_gt (blk_lt (g := gb129) (o := .cells #[.int .i64 a0_0, .slice (some ad130) l0_1.length c0_1] 25 (0, 0)) (bA_ BK129)) : gb131 ≠ gb129)); clear BK129; clear HB; have BK129 := n0_; have HB := n1_; have BK131 := n2_; have GW131 := n3_; have GE131 := n4_; have NB129_131 := n5_; have NB131_129 := n6_; clear n0_ n1_ n2_ n3_ n4_ n5_ n6_; clear hb hbox hg; have hnb16 := NB131_129.out; have hnc16 := NB129_131.out; have hcz17_0 : w15.cell? ⟨gb131, 0, none⟩ = some (.int .i64 0) := (blk_cell BK131.out 0).trans rfl; have hcz17_1 : w15.cell? ⟨gb131, 1, none⟩ = some (.int .i64 0) := (blk_cell BK131.out 1).trans rfl; have hcz17_2 : w15.cell? ⟨gb131, 2, none⟩ = some (.int .i64 0) := (blk_cell BK131.out 2).trans rfl; have hcz17_3 : w15.cell? ⟨gb131, 3, none⟩ = some (.int .i64 0) := (blk_cell BK131.out 3).trans rfl; have hfz17_0 := blk_frozen BK131.out 0; have hfz17_1 := blk_frozen BK131.out 1; have hfz17_2 := blk_frozen BK131.out 2; have hfz17_3 := blk_frozen BK131.out 3))
         (try simp only [Act.put, zB, zC, zD])
         go_cut [45] (fun v45 wc => ∃ (kq : Nat) (x45_13 : Bool), v45 = .bool x45_13 ∧ Aside0 (impl_SketchOK.j2 kq l0_1 (l0_1.length : Int) x22_2 x45_13 a0_0 l0_1 ((rd_T35 l0_1 x22_2).f0) ((rd_T35 l0_1 x22_2).f1) ((rd_T35 l0_1 x22_2).f2) ((rd_T35 l0_1 x22_2).f3) = some r) ∧ Aside0 (kq ≤ k2) ∧ Aside0 (wc.heap[gb129]? = some (.cells #[.int .i64 a0_0, (.slice (some ad130) l0_1.length c0_1)] 25 (0, 0))) ∧ Aside0 (wc.heap[gb131]? = some (.cells #[.int .i64 ((rd_T35 l0_1 x22_2).f0), .int .i64 ((rd_T35 l0_1 x22_2).f1), .int .i64 ((rd_T35 l0_1 x22_2).f2), .int .i64 ((rd_T35 l0_1 x22_2).f3)] 35 (0, 0))) ∧ Aside0 (Below w.heap.size w wc))
         case first =>
          have H := HC14.out
          clear HC14
          by_cases c18 : ((rd_T35 l0_1 x22_2).f0) < 1
          ·rw [if_pos c18] at H
           have c18b0 : decide (((rd_T35 l0_1 x22_2).f0) < 1) = true := decide_eq_true c18
           clear c18
           (first | rw [c18b0] | (simp only [i64_w, i32_w]; rw [c18b0]) | skip)
           have H' := zA H
           clear H
           have hnb19 := NB131_129.out
           have hnc19 := NB129_131.out
           have hcz20_0 : w15.cell? ⟨gb131, 0, none⟩ = some (.int .i64 0) := (blk_cell BK131.out 0).trans rfl
           have hcz20_1 : w15.cell? ⟨gb131, 1, none⟩ = some (.int .i64 0) := (blk_cell BK131.out 1).trans rfl
           have hcz20_2 : w15.cell? ⟨gb131, 2, none⟩ = some (.int .i64 0) := (blk_cell BK131.out 2).trans rfl
           have hcz20_3 : w15.cell? ⟨gb131, 3, none⟩ = some (.int .i64 0) := (blk_cell BK131.out 3).trans rfl
           have hfz20_0 := blk_frozen BK131.out 0
           have hfz20_1 := blk_frozen BK131.out 1
           have hfz20_2 := blk_frozen BK131.out 2
           have hfz20_3 := blk_frozen BK131.out 3
           go_wp2
           go_meet
           case rel => exact ⟨_, (true), (by first | rfl | (simp; done) | (simp [*]; done)), H', ⟨by have := HJ1.out; have := HK2.out; first | omega | exact Nat.le_refl _⟩, ⟨bD_ BK129⟩, ⟨by (with_reducible repeat (first | refine zM ?_ _ | refine zN ?_ | refine zO ?_ _)); refine blk_put (cs := #[.int .i64 ((rd_T35 l0_1 x22_2).f0), .int .i64 ((rd_T35 l0_1 x22_2).f1), .int .i64 ((rd_T35 l0_1 x22_2).f2), .int .i64 0]) ?_ 3 _ rfl; (with_reducible repeat (first | refine zM ?_ _ | refine zN ?_ | refine zO ?_ _)); refine blk_put (cs := #[.int .i64 ((rd_T35 l0_1 x22_2).f0), .int .i64 ((rd_T35 l0_1 x22_2).f1), .int .i64 0, .int .i64 0]) ?_ 2 _ rfl; (with_reducible repeat (first | refine zM ?_ _ | refine zN ?_ | refine zO ?_ _)); refine blk_put (cs := #[.int .i64 ((rd_T35 l0_1 x22_2).f0), .int .i64 0, .int .i64 0, .int .i64 0]) ?_ 1 _ rfl; (with_reducible repeat (first | refine zM ?_ _ | refine zN ?_ | refine zO ?_ _)); refine blk_put (cs := #[.int .i64 0, .int .i64 0, .int .i64 0, .int .i64 0]) ?_ 0 _ rfl; (with_reducible repeat (first | refine zM ?_ _ | refine zN ?_ | refine zO ?_ _)); exact BK131.out⟩, ⟨bB_ HB⟩⟩
          ·rw [if_neg c18] at H
           have c18b0 : decide (((rd_T35 l0_1 x22_2).f0) < 1) = false := decide_eq_false c18
           clear c18
           (first | rw [c18b0] | (simp only [i64_w, i32_w]; rw [c18b0]) | skip)
           by_cases c21 : ((rd_T35 l0_1 x22_2).f0) > 9
           ·rw [if_pos c21] at H
            have c21b0 : decide (9 < ((rd_T35 l0_1 x22_2).f0)) = true := decide_eq_true c21
            clear c21
            have H' := zA H
            clear H
            have hnb22 := NB131_129.out
            have hnc22 := NB129_131.out
            have hcz23_0 : w15.cell? ⟨gb131, 0, none⟩ = some (.int .i64 0) := (blk_cell BK131.out 0).trans rfl
            have hcz23_1 : w15.cell? ⟨gb131, 1, none⟩ = some (.int .i64 0) := (blk_cell BK131.out 1).trans rfl
            have hcz23_2 : w15.cell? ⟨gb131, 2, none⟩ = some (.int .i64 0) := (blk_cell BK131.out 2).trans rfl
            have hcz23_3 : w15.cell? ⟨gb131, 3, none⟩ = some (.int .i64 0) := (blk_cell BK131.out 3).trans rfl
            have hfz23_0 := blk_frozen BK131.out 0
            have hfz23_1 := blk_frozen BK131.out 1
            have hfz23_2 := blk_frozen BK131.out 2
            have hfz23_3 := blk_frozen BK131.out 3
            go_wp2
            go_meet
            case rel => exact ⟨_, (true), (by first | rfl | (simp; done) | (simp [*]; done)), H', ⟨by have := HJ1.out; have := HK2.out; first | omega | exact Nat.le_refl _⟩, ⟨bD_ BK129⟩, ⟨by (with_reducible repeat (first | refine zM ?_ _ | refine zN ?_ | refine zO ?_ _)); refine blk_put (cs := #[.int .i64 ((rd_T35 l0_1 x22_2).f0), .int .i64 ((rd_T35 l0_1 x22_2).f1), .int .i64 ((rd_T35 l0_1 x22_2).f2), .int .i64 0]) ?_ 3 _ rfl; (with_reducible repeat (first | refine zM ?_ _ | refine zN ?_ | refine zO ?_ _)); refine blk_put (cs := #[.int .i64 ((rd_T35 l0_1 x22_2).f0), .int .i64 ((rd_T35 l0_1 x22_2).f1), .int .i64 0, .int .i64 0]) ?_ 2 _ rfl; (with_reducible repeat (first | refine zM ?_ _ | refine zN ?_ | refine zO ?_ _)); refine blk_put (cs := #[.int .i64 ((rd_T35 l0_1 x22_2).f0), .int .i64 0, .int .i64 0, .int .i64 0]) ?_ 1 _ rfl; (with_reducible repeat (first | refine zM ?_ _ | refine zN ?_ | refine zO ?_ _)); refine blk_put (cs := #[.int .i64 0, .int .i64 0, .int .i64 0, .int .i64 0]) ?_ 0 _ rfl; (with_reducible repeat (first | refine zM ?_ _ | refine zN ?_ | refine zO ?_ _)); exact BK131.out⟩, ⟨bB_ HB⟩⟩
           ·rw [if_neg c21] at H
            have c21b0 : decide (9 < ((rd_T35 l0_1 x22_2).f0)) = false := decide_eq_false c21
            clear c21
            by_cases c24 : ((rd_T35 l0_1 x22_2).f1) < 0
            ·rw [if_pos c24] at H
             have c24b0 : decide (((rd_T35 l0_1 x22_2).f1) < 0) = true := decide_eq_true c24
             clear c24
             have H' := zA H
             clear H
             have hnb25 := NB131_129.out
             have hnc25 := NB129_131.out
             have hcz26_0 : w15.cell? ⟨gb131, 0, none⟩ = some (.int .i64 0) := (blk_cell BK131.out 0).trans rfl
             have hcz26_1 : w15.cell? ⟨gb131, 1, none⟩ = some (.int .i64 0) := (blk_cell BK131.out 1).trans rfl
             have hcz26_2 : w15.cell? ⟨gb131, 2, none⟩ = some (.int .i64 0) := (blk_cell BK131.out 2).trans rfl
             have hcz26_3 : w15.cell? ⟨gb131, 3, none⟩ = some (.int .i64 0) := (blk_cell BK131.out 3).trans rfl
             have hfz26_0 := blk_frozen BK131.out 0
             have hfz26_1 := blk_frozen BK131.out 1
             have hfz26_2 := blk_frozen BK131.out 2
             have hfz26_3 := blk_frozen BK131.out 3
             go_wp2
             go_meet
             case rel => exact ⟨_, (true), (by first | rfl | (simp; done) | (simp [*]; done)), H', ⟨by have := HJ1.out; have := HK2.out; first | omega | exact Nat.le_refl _⟩, ⟨bD_ BK129⟩, ⟨by (with_reducible repeat (first | refine zM ?_ _ | refine zN ?_ | refine zO ?_ _)); refine blk_put (cs := #[.int .i64 ((rd_T35 l0_1 x22_2).f0), .int .i64 ((rd_T35 l0_1 x22_2).f1), .int .i64 ((rd_T35 l0_1 x22_2).f2), .int .i64 0]) ?_ 3 _ rfl; (with_reducible repeat (first | refine zM ?_ _ | refine zN ?_ | refine zO ?_ _)); refine blk_put (cs := #[.int .i64 ((rd_T35 l0_1 x22_2).f0), .int .i64 ((rd_T35 l0_1 x22_2).f1), .int .i64 0, .int .i64 0]) ?_ 2 _ rfl; (with_reducible repeat (first | refine zM ?_ _ | refine zN ?_ | refine zO ?_ _)); refine blk_put (cs := #[.int .i64 ((rd_T35 l0_1 x22_2).f0), .int .i64 0, .int .i64 0, .int .i64 0]) ?_ 1 _ rfl; (with_reducible repeat (first | refine zM ?_ _ | refine zN ?_ | refine zO ?_ _)); refine blk_put (cs := #[.int .i64 0, .int .i64 0, .int .i64 0, .int .i64 0]) ?_ 0 _ rfl; (with_reducible repeat (first | refine zM ?_ _ | refine zN ?_ | refine zO ?_ _)); exact BK131.out⟩, ⟨bB_ HB⟩⟩
            ·rw [if_neg c24] at H
             have c24b0 : decide (((rd_T35 l0_1 x22_2).f1) < 0) = false := decide_eq_false c24
             clear c24
             have H' := zA H
             clear H
             have hnb27 := NB131_129.out
             have hnc27 := NB129_131.out
             have hcz28_0 : w15.cell? ⟨gb131, 0, none⟩ = some (.int .i64 0) := (blk_cell BK131.out 0).trans rfl
             have hcz28_1 : w15.cell? ⟨gb131, 1, none⟩ = some (.int .i64 0) := (blk_cell BK131.out 1).trans rfl
             have hcz28_2 : w15.cell? ⟨gb131, 2, none⟩ = some (.int .i64 0) := (blk_cell BK131.out 2).trans rfl
             have hcz28_3 : w15.cell? ⟨gb131, 3, none⟩ = some (.int .i64 0) := (blk_cell BK131.out 3).trans rfl
             have hfz28_0 := blk_frozen BK131.out 0
             have hfz28_1 := blk_frozen BK131.out 1
             have hfz28_2 := blk_frozen BK131.out 2
             have hfz28_3 := blk_frozen BK131.out 3
             have hcz29_0 : w15.cell? ⟨gb129, 0, none⟩ = some (.int .i64 a0_0) := (blk_cell BK129.out 0).trans rfl
             have hcz29_1 : w15.cell? ⟨gb129, 1, none⟩ = some (.slice (some ad130) l0_1.length c0_1) := (blk_cell BK129.out 1).trans rfl
             have hfz29_0 := blk_frozen BK129.out 0
             have hfz29_1 := blk_frozen BK129.out 1
             go_wp2
             go_meet
             case rel => exact ⟨_, (decide (((rd_T35 l0_1 x22_2).f1) ≥ a0_0)), (by first | rfl | (simp; done) | (simp [*]; done)), H', ⟨by have := HJ1.out; have := HK2.out; first | omega | exact Nat.le_refl _⟩, ⟨bD_ BK129⟩, ⟨by (with_reducible repeat (first | refine zM ?_ _ | refine zN ?_ | refine zO ?_ _)); refine blk_put (cs := #[.int .i64 ((rd_T35 l0_1 x22_2).f0), .int .i64 ((rd_T35 l0_1 x22_2).f1), .int .i64 ((rd_T35 l0_1 x22_2).f2), .int .i64 0]) ?_ 3 _ rfl; (with_reducible repeat (first | refine zM ?_ _ | refine zN ?_ | refine zO ?_ _)); refine blk_put (cs := #[.int .i64 ((rd_T35 l0_1 x22_2).f0), .int .i64 ((rd_T35 l0_1 x22_2).f1), .int .i64 0, .int .i64 0]) ?_ 2 _ rfl; (with_reducible repeat (first | refine zM ?_ _ | refine zN ?_ | refine zO ?_ _)); refine blk_put (cs := #[.int .i64 ((rd_T35 l0_1 x22_2).f0), .int .i64 0, .int .i64 0, .int .i64 0]) ?_ 1 _ rfl; (with_reducible repeat (first | refine zM ?_ _ | refine zN ?_ | refine zO ?_ _)); refine blk_put (cs := #[.int .i64 0, .int .i64 0, .int .i64 0, .int .i64 0]) ?_ 0 _ rfl; (with_reducible repeat (first | refine zM ?_ _ | refine zN ?_ | refine zO ?_ _)); exact BK131.out⟩, ⟨bB_ HB⟩⟩
         case rest =>
          clear HC14
          try clear c1
          try clear p1
          try clear q1
          try clear hx1
          try clear c2
          try clear p2
          try clear c4
          try clear c4b0
          try clear c6
          try clear c6b0
          try clear c9
          try clear c11
          try clear c11b0
          try clear c12
          try clear c12b0
          try clear c13
          try clear c13b0
          try clear p13
          try clear q13
          try clear hx13
          try clear c16
          try clear c18
          try clear c18b0
          try clear c19
          try clear c21
          try clear c21b0
          try clear c22
          try clear c24
          try clear c24b0
          try clear c25
          try clear c27
          try clear hcz10_0
          try clear hcz10_1
          try clear hcz17_0
          try clear hcz17_1
          try clear hcz17_2
          try clear hcz17_3
          try clear hcz20_0
          try clear hcz20_1
          try clear hcz20_2
          try clear hcz20_3
          try clear hcz23_0
          try clear hcz23_1
          try clear hcz23_2
          try clear hcz23_3
          try clear hcz26_0
          try clear hcz26_1
          try clear hcz26_2
          try clear hcz26_3
          try clear hcz28_0
          try clear hcz28_1
          try clear hcz28_2
          try clear hcz28_3
          try clear hcz29_0
          try clear hcz29_1
          try clear hcz5_0
          try clear hcz5_1
          try clear hcz7_0
          try clear hcz7_1
          try clear hcz8_0
          try clear hcz8_1
          try clear hfz10_0
          try clear hfz10_1
          try clear hfz17_0
          try clear hfz17_1
          try clear hfz17_2
          try clear hfz17_3
          try clear hfz20_0
          try clear hfz20_1
          try clear hfz20_2
          try clear hfz20_3
          try clear hfz23_0
          try clear hfz23_1
          try clear hfz23_2
          try clear hfz23_3
          try clear hfz26_0
          try clear hfz26_1
          try clear hfz26_2
          try clear hfz26_3
          try clear hfz28_0
          try clear hfz28_1
          try clear hfz28_2
          try clear hfz28_3
          try clear hfz29_0
          try clear hfz29_1
          try clear hfz5_0
          try clear hfz5_1
          try clear hfz7_0
          try clear hfz7_1
          try clear hfz8_0
          try clear hfz8_1
          try clear hx130_0
          try clear hx130_1
          try clear hx130_2
          try clear hx130_3
          try clear p130
          try clear p2
          try clear q130
          obtain ⟨kq, x45_13, rfl, HA, HJ13, BK129, BK131, HB⟩ := hcut
          cases kq with
          | zero => exact absurd HA.out (by simp [impl_SketchOK.j2])
          | succ kj13 =>
           have H := HA.out
           clear HA
           simp only [impl_SketchOK.j2] at H
           by_cases c30 : x45_13 = true
           ·subst c30
            have H1 : (some false) = some r := by rw [if_pos rfl] at H; exact H
            clear H
            have H := H1
            clear H1
            obtain rfl := Option.some.inj H
            go_wp2
            go_ret
            exact ⟨by first | rfl | (simp [errW_none, errW_some] <;> rfl) | (simp [*, errW_none, errW_some] <;> rfl), bB_ HB⟩
           ·replace c30 := Bool.eq_false_iff.mpr c30
            subst c30
            have H1 : (if ((rd_T35 l0_1 x22_2).f0) ≤ 2 then (if ((rd_T35 l0_1 x22_2).f2) = 0 then (if ((rd_T35 l0_1 x22_2).f2) < 0 then (impl_SketchOK.j3 kj13 l0_1 (l0_1.length : Int) x22_2 true a0_0 l0_1 ((rd_T35 l0_1 x22_2).f0) ((rd_T35 l0_1 x22_2).f1) ((rd_T35 l0_1 x22_2).f2) ((rd_T35 l0_1 x22_2).f3)) else (impl_SketchOK.j3 kj13 l0_1 (l0_1.length : Int) x22_2 (decide (((rd_T35 l0_1 x22_2).f2) ≥ a0_0)) a0_0 l0_1 ((rd_T35 l0_1 x22_2).f0) ((rd_T35 l0_1 x22_2).f1) ((rd_T35 l0_1 x22_2).f2) ((rd_T35 l0_1 x22_2).f3))) else (impl_SketchOK.j3 kj13 l0_1 (l0_1.length : Int) x22_2 true a0_0 l0_1 ((rd_T35 l0_1 x22_2).f0) ((rd_T35 l0_1 x22_2).f1) ((rd_T35 l0_1 x22_2).f2) ((rd_T35 l0_1 x22_2).f3))) else (if ((rd_T35 l0_1 x22_2).f2) < 0 then (impl_SketchOK.j3 kj13 l0_1 (l0_1.length : Int) x22_2 true a0_0 l0_1 ((rd_T35 l0_1 x22_2).f0) ((rd_T35 l0_1 x22_2).f1) ((rd_T35 l0_1 x22_2).f2) ((rd_T35 l0_1 x22_2).f3)) else (impl_SketchOK.j3 kj13 l0_1 (l0_1.length : Int) x22_2 (decide (((rd_T35 l0_1 x22_2).f2) ≥ a0_0)) a0_0 l0_1 ((rd_T35 l0_1 x22_2).f0) ((rd_T35 l0_1 x22_2).f1) ((rd_T35 l0_1 x22_2).f2) ((rd_T35 l0_1 x22_2).f3)))) = some r := by rw [if_neg (show ¬ (false = true) by decide)] at H; exact H
            clear H
            have H := H1
            clear H1
            have HC31 := zA H
            clear H
            go_upto_region 8 with (fail)
            go_cut [65] (fun v65 wc => ∃ (kq : Nat) (x65_30 : Bool), v65 = .bool x65_30 ∧ Aside0 (impl_SketchOK.j3 kq l0_1 (l0_1.length : Int) x22_2 x65_30 a0_0 l0_1 ((rd_T35 l0_1 x22_2).f0) ((rd_T35 l0_1 x22_2).f1) ((rd_T35 l0_1 x22_2).f2) ((rd_T35 l0_1 x22_2).f3) = some r) ∧ Aside0 (kq ≤ kj13) ∧ Aside0 (wc.heap[gb129]? = some (.cells #[.int .i64 a0_0, (.slice (some ad130) l0_1.length c0_1)] 25 (0, 0))) ∧ Aside0 (wc.heap[gb131]? = some (.cells #[.int .i64 ((rd_T35 l0_1 x22_2).f0), .int .i64 ((rd_T35 l0_1 x22_2).f1), .int .i64 ((rd_T35 l0_1 x22_2).f2), .int .i64 ((rd_T35 l0_1 x22_2).f3)] 35 (0, 0))) ∧ Aside0 (Below w.heap.size w wc))
            case first =>
             have H := HC31.out
             clear HC31
             by_cases c32 : ((rd_T35 l0_1 x22_2).f0) ≤ 2
             ·rw [if_pos c32] at H
              have c32b0 : decide (((rd_T35 l0_1 x22_2).f0) ≤ 2) = true := decide_eq_true c32
              clear c32
              (first | rw [c32b0] | (simp only [i64_w, i32_w]; rw [c32b0]) | skip)
              by_cases c33 : ((rd_T35 l0_1 x22_2).f2) = 0
              ·rw [if_pos c33] at H
               have c33b0 : (((rd_T35 l0_1 x22_2).f2) == 0) = true := beq_iff_eq.mpr c33
               have c33b1 : (((rd_T35 l0_1 x22_2).f2) != 0) = false := bne_eq_false_iff_eq.mpr c33
               clear c33
               by_cases c34 : ((rd_T35 l0_1 x22_2).f2) < 0
               ·rw [if_pos c34] at H
                have c34b0 : decide (((rd_T35 l0_1 x22_2).f2) < 0) = true := decide_eq_true c34
                clear c34
                have H' := zA H
                clear H
                have hnb35 := NB131_129.out
                have hnc35 := NB129_131.out
                have hcz36_0 : wc.cell? ⟨gb131, 0, none⟩ = some (.int .i64 ((rd_T35 l0_1 x22_2).f0)) := (blk_cell BK131.out 0).trans rfl
                have hcz36_1 : wc.cell? ⟨gb131, 1, none⟩ = some (.int .i64 ((rd_T35 l0_1 x22_2).f1)) := (blk_cell BK131.out 1).trans rfl
                have hcz36_2 : wc.cell? ⟨gb131, 2, none⟩ = some (.int .i64 ((rd_T35 l0_1 x22_2).f2)) := (blk_cell BK131.out 2).trans rfl
                have hcz36_3 : wc.cell? ⟨gb131, 3, none⟩ = some (.int .i64 ((rd_T35 l0_1 x22_2).f3)) := (blk_cell BK131.out 3).trans rfl
                have hfz36_0 := blk_frozen BK131.out 0
                have hfz36_1 := blk_frozen BK131.out 1
                have hfz36_2 := blk_frozen BK131.out 2
                have hfz36_3 := blk_frozen BK131.out 3
                go_wp2
                go_meet
                case rel => exact ⟨_, (true), (by first | rfl | (simp; done) | (simp [*]; done)), H', ⟨by have := HJ1.out; have := HK2.out; have := HJ13.out; first | omega | exact Nat.le_refl _⟩, ⟨bA_ BK129⟩, ⟨bA_ BK131⟩, ⟨bB_ HB⟩⟩
               ·rw [if_neg c34] at H
                have c34b0 : decide (((rd_T35 l0_1 x22_2).f2) < 0) = false := decide_eq_false c34
                clear c34
                have H' := zA H
                clear H
                have hnb37 := NB131_129.out
                have hnc37 := NB129_131.out
                have hcz38_0 : wc.cell? ⟨gb131, 0, none⟩ = some (.int .i64 ((rd_T35 l0_1 x22_2).f0)) := (blk_cell BK131.out 0).trans rfl
                have hcz38_1 : wc.cell? ⟨gb131, 1, none⟩ = some (.int .i64 ((rd_T35 l0_1 x22_2).f1)) := (blk_cell BK131.out 1).trans rfl
                have hcz38_2 : wc.cell? ⟨gb131, 2, none⟩ = some (.int .i64 ((rd_T35 l0_1 x22_2).f2)) := (blk_cell BK131.out 2).trans rfl
                have hcz38_3 : wc.cell? ⟨gb131, 3, none⟩ = some (.int .i64 ((rd_T35 l0_1 x22_2).f3)) := (blk_cell BK131.out 3).trans rfl
                have hfz38_0 := blk_frozen BK131.out 0
                have hfz38_1 := blk_frozen BK131.out 1
                have hfz38_2 := blk_frozen BK131.out 2
                have hfz38_3 := blk_frozen BK131.out 3
                have hcz39_0 : wc.cell? ⟨gb129, 0, none⟩ = some (.int .i64 a0_0) := (blk_cell BK129.out 0).trans rfl
                have hcz39_1 : wc.cell? ⟨gb129, 1, none⟩ = some (.slice (some ad130) l0_1.length c0_1) := (blk_cell BK129.out 1).trans rfl
                have hfz39_0 := blk_frozen BK129.out 0
                have hfz39_1 := blk_frozen BK129.out 1
                go_wp2
                go_meet
                case rel => exact ⟨_, (decide (((rd_T35 l0_1 x22_2).f2) ≥ a0_0)), (by first | rfl | (simp; done) | (simp [*]; done)), H', ⟨by have := HJ1.out; have := HK2.out; have := HJ13.out; first | omega | exact Nat.le_refl _⟩, ⟨bA_ BK129⟩, ⟨bA_ BK131⟩, ⟨bB_ HB⟩⟩
              ·rw [if_neg c33] at H
               have c33b0 : (((rd_T35 l0_1 x22_2).f2) == 0) = false := beq_eq_false_iff_ne.mpr c33
               have c33b1 : (((rd_T35 l0_1 x22_2).f2) != 0) = true := bne_iff_ne.mpr c33
               have H' := zA H
               clear H
               have hnb40 := NB131_129.out
               have hnc40 := NB129_131.out
               have hcz41_0 : wc.cell? ⟨gb131, 0, none⟩ = some (.int .i64 ((rd_T35 l0_1 x22_2).f0)) := (blk_cell BK131.out 0).trans rfl
               have hcz41_1 : wc.cell? ⟨gb131, 1, none⟩ = some (.int .i64 ((rd_T35 l0_1 x22_2).f1)) := (blk_cell BK131.out 1).trans rfl
               have hcz41_2 : wc.cell? ⟨gb131, 2, none⟩ = some (.int .i64 ((rd_T35 l0_1 x22_2).f2)) := (blk_cell BK131.out 2).trans rfl
               have hcz41_3 : wc.cell? ⟨gb131, 3, none⟩ = some (.int .i64 ((rd_T35 l0_1 x22_2).f3)) := (blk_cell BK131.out 3).trans rfl
               have hfz41_0 := blk_frozen BK131.out 0
               have hfz41_1 := blk_frozen BK131.out 1
               have hfz41_2 := blk_frozen BK131.out 2
               have hfz41_3 := blk_frozen BK131.out 3
               go_wp2
               go_meet
               case rel => exact ⟨_, (true), (by first | rfl | (simp; done) | (simp [*]; done)), H', ⟨by have := HJ1.out; have := HK2.out; have := HJ13.out; first | omega | exact Nat.le_refl _⟩, ⟨bA_ BK129⟩, ⟨bA_ BK131⟩, ⟨bB_ HB⟩⟩
             ·rw [if_neg c32] at H
              have c32b0 : decide (((rd_T35 l0_1 x22_2).f0) ≤ 2) = false := decide_eq_false c32
              clear c32
              (first | rw [c32b0] | (simp only [i64_w, i32_w]; rw [c32b0]) | skip)
              by_cases c42 : ((rd_T35 l0_1 x22_2).f2) < 0
              ·rw [if_pos c42] at H
               have c42b0 : decide (((rd_T35 l0_1 x22_2).f2) < 0) = true := decide_eq_true c42
               clear c42
               have H' := zA H
               clear H
               have hnb43 := NB131_129.out
               have hnc43 := NB129_131.out
               have hcz44_0 : wc.cell? ⟨gb131, 0, none⟩ = some (.int .i64 ((rd_T35 l0_1 x22_2).f0)) := (blk_cell BK131.out 0).trans rfl
               have hcz44_1 : wc.cell? ⟨gb131, 1, none⟩ = some (.int .i64 ((rd_T35 l0_1 x22_2).f1)) := (blk_cell BK131.out 1).trans rfl
               have hcz44_2 : wc.cell? ⟨gb131, 2, none⟩ = some (.int .i64 ((rd_T35 l0_1 x22_2).f2)) := (blk_cell BK131.out 2).trans rfl
               have hcz44_3 : wc.cell? ⟨gb131, 3, none⟩ = some (.int .i64 ((rd_T35 l0_1 x22_2).f3)) := (blk_cell BK131.out 3).trans rfl
               have hfz44_0 := blk_frozen BK131.out 0
               have hfz44_1 := blk_frozen BK131.out 1
               have hfz44_2 := blk_frozen BK131.out 2
               have hfz44_3 := blk_frozen BK131.out 3
               go_wp2
               go_meet
               case rel => exact ⟨_, (true), (by first | rfl | (simp; done) | (simp [*]; done)), H', ⟨by have := HJ1.out; have := HK2.out; have := HJ13.out; first | omega | exact Nat.le_refl _⟩, ⟨bA_ BK129⟩, ⟨bA_ BK131⟩, ⟨bB_ HB⟩⟩
              ·rw [if_neg c42] at H
               have c42b0 : decide (((rd_T35 l0_1 x22_2).f2) < 0) = false := decide_eq_false c42
               clear c42
               have H' := zA H
               clear H
               have hnb45 := NB131_129.out
               have hnc45 := NB129_131.out
               have hcz46_0 : wc.cell? ⟨gb131, 0, none⟩ = some (.int .i64 ((rd_T35 l0_1 x22_2).f0)) := (blk_cell BK131.out 0).trans rfl
               have hcz46_1 : wc.cell? ⟨gb131, 1, none⟩ = some (.int .i64 ((rd_T35 l0_1 x22_2).f1)) := (blk_cell BK131.out 1).trans rfl
               have hcz46_2 : wc.cell? ⟨gb131, 2, none⟩ = some (.int .i64 ((rd_T35 l0_1 x22_2).f2)) := (blk_cell BK131.out 2).trans rfl
               have hcz46_3 : wc.cell? ⟨gb131, 3, none⟩ = some (.int .i64 ((rd_T35 l0_1 x22_2).f3)) := (blk_cell BK131.out 3).trans rfl
               have hfz46_0 := blk_frozen BK131.out 0
               have hfz46_1 := blk_frozen BK131.out 1
               have hfz46_2 := blk_frozen BK131.out 2
               have hfz46_3 := blk_frozen BK131.out 3
               have hcz47_0 : wc.cell? ⟨gb129, 0, none⟩ = some (.int .i64 a0_0) := (blk_cell BK129.out 0).trans rfl
               have hcz47_1 : wc.cell? ⟨gb129, 1, none⟩ = some (.slice (some ad130) l0_1.length c0_1) := (blk_cell BK129.out 1).trans rfl
               have hfz47_0 := blk_frozen BK129.out 0
               have hfz47_1 := blk_frozen BK129.out 1
               go_wp2
               go_meet
               case rel => exact ⟨_, (decide (((rd_T35 l0_1 x22_2).f2) ≥ a0_0)), (by first | rfl | (simp; done) | (simp [*]; done)), H', ⟨by have := HJ1.out; have := HK2.out; have := HJ13.out; first | omega | exact Nat.le_refl _⟩, ⟨bA_ BK129⟩, ⟨bA_ BK131⟩, ⟨bB_ HB⟩⟩
            case rest =>
             clear HC31
             try clear c1
             try clear p1
             try clear q1
             try clear hx1
             try clear c2
             try clear p2
             try clear c3
             try clear c4
             try clear c4b0
             try clear c6
             try clear c6b0
             try clear c9
             try clear c11
             try clear c11b0
             try clear c12
             try clear c12b0
             try clear c13
             try clear c13b0
             try clear p13
             try clear q13
             try clear hx13
             try clear c16
             try clear c18
             try clear c18b0
             try clear c19
             try clear c21
             try clear c21b0
             try clear c22
             try clear c24
             try clear c24b0
             try clear c25
             try clear c27
             try clear c30
             try clear c32
             try clear c32b0
             try clear c33
             try clear c33b0
             try clear c33b1
             try clear c34
             try clear c34b0
             try clear c35
             try clear c37
             try clear c40
             try clear c42
             try clear c42b0
             try clear c43
             try clear c45
             try clear hcz10_0
             try clear hcz10_1
             try clear hcz17_0
             try clear hcz17_1
             try clear hcz17_2
             try clear hcz17_3
             try clear hcz20_0
             try clear hcz20_1
             try clear hcz20_2
             try clear hcz20_3
             try clear hcz23_0
             try clear hcz23_1
             try clear hcz23_2
             try clear hcz23_3
             try clear hcz26_0
             try clear hcz26_1
             try clear hcz26_2
             try clear hcz26_3
             try clear hcz28_0
             try clear hcz28_1
             try clear hcz28_2
             try clear hcz28_3
             try clear hcz29_0
             try clear hcz29_1
             try clear hcz36_0
             try clear hcz36_1
             try clear hcz36_2
             try clear hcz36_3
             try clear hcz38_0
             try clear hcz38_1
             try clear hcz38_2
             try clear hcz38_3
             try clear hcz39_0
             try clear hcz39_1
             try clear hcz41_0
             try clear hcz41_1
             try clear hcz41_2
             try clear hcz41_3
             try clear hcz44_0
             try clear hcz44_1
             try clear hcz44_2
             try clear hcz44_3
             try clear hcz46_0
             try clear hcz46_1
             try clear hcz46_2
             try clear hcz46_3
             try clear hcz47_0
             try clear hcz47_1
             try clear hcz5_0
             try clear hcz5_1
             try clear hcz7_0
             try clear hcz7_1
             try clear hcz8_0
             try clear hcz8_1
             try clear hfz10_0
             try clear hfz10_1
             try clear hfz17_0
             try clear hfz17_1
             try clear hfz17_2
             try clear hfz17_3
             try clear hfz20_0
             try clear hfz20_1
             try clear hfz20_2
             try clear hfz20_3
             try clear hfz23_0
             try clear hfz23_1
             try clear hfz23_2
             try clear hfz23_3
             try clear hfz26_0
             try clear hfz26_1
             try clear hfz26_2
             try clear hfz26_3
             try clear hfz28_0
             try clear hfz28_1
             try clear hfz28_2
             try clear hfz28_3
             try clear hfz29_0
             try clear hfz29_1
             try clear hfz36_0
             try clear hfz36_1
             try clear hfz36_2
             try clear hfz36_3
             try clear hfz38_0
             try clear hfz38_1
             try clear hfz38_2
             try clear hfz38_3
             try clear hfz39_0
             try clear hfz39_1
             try clear hfz41_0
             try clear hfz41_1
             try clear hfz41_2
             try clear hfz41_3
             try clear hfz44_0
             try clear hfz44_1
             try clear hfz44_2
             try clear hfz44_3
             try clear hfz46_0
             try clear hfz46_1
             try clear hfz46_2
             try clear hfz46_3
             try clear hfz47_0
             try clear hfz47_1
             try clear hfz5_0
             try clear hfz5_1
             try clear hfz7_0
             try clear hfz7_1
             try clear hfz8_0
             try clear hfz8_1
             try clear hx130_0
             try clear hx130_1
             try clear hx130_2
             try clear hx130_3
             try clear p1
             try clear p13
             try clear p130
             try clear p2
             try clear q1
             try clear q13
             try clear q130
             obtain ⟨kq, x65_30, rfl, HA, HJ30, BK129, BK131, HB⟩ := hcut
             cases kq with
             | zero => exact absurd HA.out (by simp [impl_SketchOK.j3])
             | succ kj30 =>
              have H := HA.out
              clear HA
              simp only [impl_SketchOK.j3] at H
              by_cases c48 : x65_30 = true
              ·subst c48
               have H1 : (some false) = some r := by rw [if_pos rfl] at H; exact H
               clear H
               have H := H1
               clear H1
               obtain rfl := Option.some.inj H
               go_wp2
               go_ret
               exact ⟨by first | rfl | (simp [errW_none, errW_some] <;> rfl) | (simp [*, errW_none, errW_some] <;> rfl), bB_ HB⟩
              ·replace c48 := Bool.eq_false_iff.mpr c48
               subst c48
               have H1 : (if ((rd_T35 l0_1 x22_2).f0) ≥ 7 then (if ((rd_T35 l0_1 x22_2).f3) = 0 then (if ((rd_T35 l0_1 x22_2).f3) < (-100000) then (some false) else (if ((rd_T35 l0_1 x22_2).f3) > 100000 then (some false) else (impl_SketchOK.l0 kj30 l0_1 (l0_1.length : Int) (wrap64 (x22_2 + 1)) a0_0 l0_1))) else (some false)) else (if ((rd_T35 l0_1 x22_2).f3) < (-100000) then (some false) else (if ((rd_T35 l0_1 x22_2).f3) > 100000 then (some false) else (impl_SketchOK.l0 kj30 l0_1 (l0_1.length : Int) (wrap64 (x22_2 + 1)) a0_0 l0_1)))) = some r := by rw [if_neg (show ¬ (false = true) by decide)] at H; exact H
               clear H
               have H := H1
               clear H1
               by_cases c49 : ((rd_T35 l0_1 x22_2).f0) ≥ 7
               ·rw [if_pos c49] at H
                have c49b0 : decide (7 ≤ ((rd_T35 l0_1 x22_2).f0)) = true := decide_eq_true c49
                clear c49
                by_cases c50 : ((rd_T35 l0_1 x22_2).f3) = 0
                ·rw [if_pos c50] at H
                 have c50b0 : (((rd_T35 l0_1 x22_2).f3) == 0) = true := beq_iff_eq.mpr c50
                 have c50b1 : (((rd_T35 l0_1 x22_2).f3) != 0) = false := bne_eq_false_iff_eq.mpr c50
                 clear c50
                 by_cases c51 : ((rd_T35 l0_1 x22_2).f3) < (-100000)
                 ·rw [if_pos c51] at H
                  have c51b0 : decide (((rd_T35 l0_1 x22_2).f3) < (-100000)) = true := decide_eq_true c51
                  clear c51
                  obtain rfl := Option.some.inj H
                  have hnb52 := NB131_129.out
                  have hnc52 := NB129_131.out
                  have hcz53_0 : wc.cell? ⟨gb131, 0, none⟩ = some (.int .i64 ((rd_T35 l0_1 x22_2).f0)) := (blk_cell BK131.out 0).trans rfl
                  have hcz53_1 : wc.cell? ⟨gb131, 1, none⟩ = some (.int .i64 ((rd_T35 l0_1 x22_2).f1)) := (blk_cell BK131.out 1).trans rfl
                  have hcz53_2 : wc.cell? ⟨gb131, 2, none⟩ = some (.int .i64 ((rd_T35 l0_1 x22_2).f2)) := (blk_cell BK131.out 2).trans rfl
                  have hcz53_3 : wc.cell? ⟨gb131, 3, none⟩ = some (.int .i64 ((rd_T35 l0_1 x22_2).f3)) := (blk_cell BK131.out 3).trans rfl
                  have hfz53_0 := blk_frozen BK131.out 0
                  have hfz53_1 := blk_frozen BK131.out 1
                  have hfz53_2 := blk_frozen BK131.out 2
                  have hfz53_3 := blk_frozen BK131.out 3
                  go_wp2
                  go_ret
                  exact ⟨by first | rfl | (simp [errW_none, errW_some] <;> rfl) | (simp [*, errW_none, errW_some] <;> rfl), bB_ HB⟩
                 ·rw [if_neg c51] at H
                  have c51b0 : decide (((rd_T35 l0_1 x22_2).f3) < (-100000)) = false := decide_eq_false c51
                  clear c51
                  by_cases c54 : ((rd_T35 l0_1 x22_2).f3) > 100000
                  ·rw [if_pos c54] at H
                   have c54b0 : decide (100000 < ((rd_T35 l0_1 x22_2).f3)) = true := decide_eq_true c54
                   clear c54
                   obtain rfl := Option.some.inj H
                   have hnb55 := NB131_129.out
                   have hnc55 := NB129_131.out
                   have hcz56_0 : wc.cell? ⟨gb131, 0, none⟩ = some (.int .i64 ((rd_T35 l0_1 x22_2).f0)) := (blk_cell BK131.out 0).trans rfl
                   have hcz56_1 : wc.cell? ⟨gb131, 1, none⟩ = some (.int .i64 ((rd_T35 l0_1 x22_2).f1)) := (blk_cell BK131.out 1).trans rfl
                   have hcz56_2 : wc.cell? ⟨gb131, 2, none⟩ = some (.int .i64 ((rd_T35 l0_1 x22_2).f2)) := (blk_cell BK131.out 2).trans rfl
                   have hcz56_3 : wc.cell? ⟨gb131, 3, none⟩ = some (.int .i64 ((rd_T35 l0_1 x22_2).f3)) := (blk_cell BK131.out 3).trans rfl
                   have hfz56_0 := blk_frozen BK131.out 0
                   have hfz56_1 := blk_frozen BK131.out 1
                   have hfz56_2 := blk_frozen BK131.out 2
                   have hfz56_3 := blk_frozen BK131.out 3
                   go_wp2
                   go_ret
                   exact ⟨by first | rfl | (simp [errW_none, errW_some] <;> rfl) | (simp [*, errW_none, errW_some] <;> rfl), bB_ HB⟩
                  ·rw [if_neg c54] at H
                   have c54b0 : decide (100000 < ((rd_T35 l0_1 x22_2).f3)) = false := decide_eq_false c54
                   clear c54
                   have H' := zA H
                   clear H
                   have hnb57 := NB131_129.out
                   have hnc57 := NB129_131.out
                   have hcz58_0 : wc.cell? ⟨gb131, 0, none⟩ = some (.int .i64 ((rd_T35 l0_1 x22_2).f0)) := (blk_cell BK131.out 0).trans rfl
                   have hcz58_1 : wc.cell? ⟨gb131, 1, none⟩ = some (.int .i64 ((rd_T35 l0_1 x22_2).f1)) := (blk_cell BK131.out 1).trans rfl
                   have hcz58_2 : wc.cell? ⟨gb131, 2, none⟩ = some (.int .i64 ((rd_T35 l0_1 x22_2).f2)) := (blk_cell BK131.out 2).trans rfl
                   have hcz58_3 : wc.cell? ⟨gb131, 3, none⟩ = some (.int .i64 ((rd_T35 l0_1 x22_2).f3)) := (blk_cell BK131.out 3).trans rfl
                   have hfz58_0 := blk_frozen BK131.out 0
                   have hfz58_1 := blk_frozen BK131.out 1
                   have hfz58_2 := blk_frozen BK131.out 2
                   have hfz58_3 := blk_frozen BK131.out 3
                   go_wp2
                   go_roundg kj30
                   case measure => have := HJ1.out; have := HK2.out; have := HJ13.out; have := HJ30.out; omega
                   case rel => exact ⟨(wrap64 (x22_2 + 1)), (by first | rfl | (simp; done) | (simp [*]; done)), H', ⟨by have := HJ1.out; have := HK2.out; have := HJ13.out; have := HJ30.out; omega⟩, ⟨bA_ BK129⟩, ⟨bB_ HB⟩⟩
                ·rw [if_neg c50] at H
                 have c50b0 : (((rd_T35 l0_1 x22_2).f3) == 0) = false := beq_eq_false_iff_ne.mpr c50
                 have c50b1 : (((rd_T35 l0_1 x22_2).f3) != 0) = true := bne_iff_ne.mpr c50
                 obtain rfl := Option.some.inj H
                 have hnb59 := NB131_129.out
                 have hnc59 := NB129_131.out
                 have hcz60_0 : wc.cell? ⟨gb131, 0, none⟩ = some (.int .i64 ((rd_T35 l0_1 x22_2).f0)) := (blk_cell BK131.out 0).trans rfl
                 have hcz60_1 : wc.cell? ⟨gb131, 1, none⟩ = some (.int .i64 ((rd_T35 l0_1 x22_2).f1)) := (blk_cell BK131.out 1).trans rfl
                 have hcz60_2 : wc.cell? ⟨gb131, 2, none⟩ = some (.int .i64 ((rd_T35 l0_1 x22_2).f2)) := (blk_cell BK131.out 2).trans rfl
                 have hcz60_3 : wc.cell? ⟨gb131, 3, none⟩ = some (.int .i64 ((rd_T35 l0_1 x22_2).f3)) := (blk_cell BK131.out 3).trans rfl
                 have hfz60_0 := blk_frozen BK131.out 0
                 have hfz60_1 := blk_frozen BK131.out 1
                 have hfz60_2 := blk_frozen BK131.out 2
                 have hfz60_3 := blk_frozen BK131.out 3
                 go_wp2
                 go_ret
                 exact ⟨by first | rfl | (simp [errW_none, errW_some] <;> rfl) | (simp [*, errW_none, errW_some] <;> rfl), bB_ HB⟩
               ·rw [if_neg c49] at H
                have c49b0 : decide (7 ≤ ((rd_T35 l0_1 x22_2).f0)) = false := decide_eq_false c49
                clear c49
                by_cases c61 : ((rd_T35 l0_1 x22_2).f3) < (-100000)
                ·rw [if_pos c61] at H
                 have c61b0 : decide (((rd_T35 l0_1 x22_2).f3) < (-100000)) = true := decide_eq_true c61
                 clear c61
                 obtain rfl := Option.some.inj H
                 have hnb62 := NB131_129.out
                 have hnc62 := NB129_131.out
                 have hcz63_0 : wc.cell? ⟨gb131, 0, none⟩ = some (.int .i64 ((rd_T35 l0_1 x22_2).f0)) := (blk_cell BK131.out 0).trans rfl
                 have hcz63_1 : wc.cell? ⟨gb131, 1, none⟩ = some (.int .i64 ((rd_T35 l0_1 x22_2).f1)) := (blk_cell BK131.out 1).trans rfl
                 have hcz63_2 : wc.cell? ⟨gb131, 2, none⟩ = some (.int .i64 ((rd_T35 l0_1 x22_2).f2)) := (blk_cell BK131.out 2).trans rfl
                 have hcz63_3 : wc.cell? ⟨gb131, 3, none⟩ = some (.int .i64 ((rd_T35 l0_1 x22_2).f3)) := (blk_cell BK131.out 3).trans rfl
                 have hfz63_0 := blk_frozen BK131.out 0
                 have hfz63_1 := blk_frozen BK131.out 1
                 have hfz63_2 := blk_frozen BK131.out 2
                 have hfz63_3 := blk_frozen BK131.out 3
                 go_wp2
                 go_ret
                 exact ⟨by first | rfl | (simp [errW_none, errW_some] <;> rfl) | (simp [*, errW_none, errW_some] <;> rfl), bB_ HB⟩
                ·rw [if_neg c61] at H
                 have c61b0 : decide (((rd_T35 l0_1 x22_2).f3) < (-100000)) = false := decide_eq_false c61
                 clear c61
                 by_cases c64 : ((rd_T35 l0_1 x22_2).f3) > 100000
                 ·rw [if_pos c64] at H
                  have c64b0 : decide (100000 < ((rd_T35 l0_1 x22_2).f3)) = true := decide_eq_true c64
                  clear c64
                  obtain rfl := Option.some.inj H
                  have hnb65 := NB131_129.out
                  have hnc65 := NB129_131.out
                  have hcz66_0 : wc.cell? ⟨gb131, 0, none⟩ = some (.int .i64 ((rd_T35 l0_1 x22_2).f0)) := (blk_cell BK131.out 0).trans rfl
                  have hcz66_1 : wc.cell? ⟨gb131, 1, none⟩ = some (.int .i64 ((rd_T35 l0_1 x22_2).f1)) := (blk_cell BK131.out 1).trans rfl
                  have hcz66_2 : wc.cell? ⟨gb131, 2, none⟩ = some (.int .i64 ((rd_T35 l0_1 x22_2).f2)) := (blk_cell BK131.out 2).trans rfl
                  have hcz66_3 : wc.cell? ⟨gb131, 3, none⟩ = some (.int .i64 ((rd_T35 l0_1 x22_2).f3)) := (blk_cell BK131.out 3).trans rfl
                  have hfz66_0 := blk_frozen BK131.out 0
                  have hfz66_1 := blk_frozen BK131.out 1
                  have hfz66_2 := blk_frozen BK131.out 2
                  have hfz66_3 := blk_frozen BK131.out 3
                  go_wp2
                  go_ret
                  exact ⟨by first | rfl | (simp [errW_none, errW_some] <;> rfl) | (simp [*, errW_none, errW_some] <;> rfl), bB_ HB⟩
                 ·rw [if_neg c64] at H
                  have c64b0 : decide (100000 < ((rd_T35 l0_1 x22_2).f3)) = false := decide_eq_false c64
                  clear c64
                  have H' := zA H
                  clear H
                  have hnb67 := NB131_129.out
                  have hnc67 := NB129_131.out
                  have hcz68_0 : wc.cell? ⟨gb131, 0, none⟩ = some (.int .i64 ((rd_T35 l0_1 x22_2).f0)) := (blk_cell BK131.out 0).trans rfl
                  have hcz68_1 : wc.cell? ⟨gb131, 1, none⟩ = some (.int .i64 ((rd_T35 l0_1 x22_2).f1)) := (blk_cell BK131.out 1).trans rfl
                  have hcz68_2 : wc.cell? ⟨gb131, 2, none⟩ = some (.int .i64 ((rd_T35 l0_1 x22_2).f2)) := (blk_cell BK131.out 2).trans rfl
                  have hcz68_3 : wc.cell? ⟨gb131, 3, none⟩ = some (.int .i64 ((rd_T35 l0_1 x22_2).f3)) := (blk_cell BK131.out 3).trans rfl
                  have hfz68_0 := blk_frozen BK131.out 0
                  have hfz68_1 := blk_frozen BK131.out 1
                  have hfz68_2 := blk_frozen BK131.out 2
                  have hfz68_3 := blk_frozen BK131.out 3
                  go_wp2
                  go_roundg kj30
                  case measure => have := HJ1.out; have := HK2.out; have := HJ13.out; have := HJ30.out; omega
                  case rel => exact ⟨(wrap64 (x22_2 + 1)), (by first | rfl | (simp; done) | (simp [*]; done)), H', ⟨by have := HJ1.out; have := HK2.out; have := HJ13.out; have := HJ30.out; omega⟩, ⟨bA_ BK129⟩, ⟨bB_ HB⟩⟩
        ·rw [if_neg c13] at H
         exact absurd H (by simp)
       ·rw [if_neg c12] at H
        exact absurd H (by simp)
      ·rw [if_neg c11] at H
       have c11b0 : decide (x22_2 < (l0_1.length : Int)) = false := decide_eq_false c11
       clear c11
       obtain rfl := Option.some.inj H
       go_wp2
       go_ret
       exact ⟨by first | rfl | (simp [errW_none, errW_some] <;> rfl) | (simp [*, errW_none, errW_some] <;> rfl), bB_ HB⟩

end Go.Proofs.Ytnbkdfnlggmopaa.PFnExactSketchMove
