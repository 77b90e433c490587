/- Written for this claim by a program of this session: the functions that the law reaches, each with its contract. -/
import Derived.Test.YtnbkdfnlggmopaaPFnExactSketchMovex0
import Derived.Test.YtnbkdfnlggmopaaPFnExactSketchMovex2
import Derived.Test.YtnbkdfnlggmopaaPFnExactSketchMovex4
namespace Go.Proofs.Ytnbkdfnlggmopaa.PFnExactSketchMove
open Go.RowKit Go.Proofs.YtnbkdfnlggmopaaW.PrintWords Go.Proofs.YtnbkdfnlggmopaaW.PrintLast Go.Proofs.YtnbkdfnlggmopaaW.PrintMore
open Go.Proofs.YtnbkdfnlggmopaaW.PrintWords.Aside0 renaming mk → zA
open Go.Proofs.YtnbkdfnlggmopaaW.PrintWords.Kd renaming R_drewN → zE, R_alloc → zF, R_drew → zG, C_drewN → zH, C_alloc → zI, C_drew → zJ, R_reads' → zK, R_below → zL
open Go.Proofs.YtnbkdfnlggmopaaW.PrintWords renaming blk_drewN → zM, blk_drew → zN, blk_alloc → zO, below_set → zS, below_size → zT, blk_below → zU
attribute [local go_sem] i64_w max2_int min2_int max_two min_two max_three min_three max_four min_four
set_option linter.unusedVariables false
set_option linter.unusedSimpArgs false

mutual
def impl_SketchSolve.l0 : Nat → List Bool → Int → Int → Int → List (S35) → Option ((List (S48)) × Int × List Int)
 | 0, _, _, _, _, _ => none
 | k + 1, x5, x23, x24, x191000, x191001 => if x24 < x23 then (if 0 ≤ x24 then (if x24 < (x5.length : Int) then (impl_SketchSolve.l0 k (x5.set (x24 : Int).toNat true) x23 (wrap64 (x24 + 1)) x191000 x191001) else (none)) else (none)) else ((impl_leastOf.f k x191000 x191001 x5).bind fun bt196 => (if bt196.2 = true then (some (bt196.1, 0, ([] : List Int))) else (impl_SketchSolve.l1 k x5 (wrap64 ((x5.length : Int) - 1)) x191000 x191001)))
def impl_SketchSolve.l1 : Nat → List Bool → Int → Int → List (S35) → Option ((List (S48)) × Int × List Int)
 | 0, _, _, _, _ => none
 | k + 1, x5, x9, x191000, x191001 => if x9 ≥ 0 then (if 0 ≤ x9 then (if x9 < (x5.length : Int) then ((some (x5.set (x9 : Int).toNat false : List Bool)).bind fun y200 => ((impl_leastOf.f k x191000 x191001 y200).bind fun bt201 => (if bt201.2 = true then (impl_SketchSolve.l1 k (y200.set (x9 : Int).toNat true) (wrap64 (x9 - 1)) x191000 x191001) else (impl_SketchSolve.l1 k y200 (wrap64 (x9 - 1)) x191000 x191001)))) else (none)) else (none)) else (impl_SketchSolve.l2 k ([] : List Int) x5 (x5.length : Int) 0)
def impl_SketchSolve.l2 : Nat → List Int → List Bool → Int → Int → Option ((List (S48)) × Int × List Int)
 | 0, _, _, _, _ => none
 | k + 1, x12, x59, x60, x61 => if x61 < x60 then (if 0 ≤ x61 then (if x61 < (x59.length : Int) then (if rdOf false x59 x61 = true then (if x12.length < 17592186044416 then (impl_SketchSolve.l2 k (x12 ++ [x61]) x59 x60 (wrap64 (x61 + 1))) else (none)) else (impl_SketchSolve.l2 k x12 x59 x60 (wrap64 (x61 + 1)))) else (none)) else (none)) else (some (([] : List (S48)), 15, x12))
end
def impl_SketchSolve.f (k : Nat) (a0_0 : Int) (l0_1 : List (S35)) : Option ((List (S48)) × Int × List Int) := (impl_SketchOK.f k a0_0 l0_1).bind fun t191 => (if t191 = true then (if 0 ≤ (l0_1.length : Int) then (if ((l0_1.length : Int) : Int).toNat ≤ 281474976710656 then ((some (List.replicate ((l0_1.length : Int) : Int).toNat false : List Bool)).bind fun y192 => (impl_SketchSolve.l0 k y192 (y192.length : Int) 0 a0_0 l0_1)) else (none)) else (none)) else (some (([] : List (S48)), 1, ([] : List Int))))
theorem impl_SketchSolve.mono_l : ∀ k, (∀ y0 y1 y2 y3 y4, LeO (impl_SketchSolve.l0 k y0 y1 y2 y3 y4) (impl_SketchSolve.l0 (k + 1) y0 y1 y2 y3 y4)) ∧ (∀ y0 y1 y2 y3, LeO (impl_SketchSolve.l1 k y0 y1 y2 y3) (impl_SketchSolve.l1 (k + 1) y0 y1 y2 y3)) ∧ (∀ y0 y1 y2 y3, LeO (impl_SketchSolve.l2 k y0 y1 y2 y3) (impl_SketchSolve.l2 (k + 1) y0 y1 y2 y3))
 | 0 => ⟨fun _ _ _ _ _ r h => by simp [impl_SketchSolve.l0] at h, fun _ _ _ _ r h => by simp [impl_SketchSolve.l1] at h, fun _ _ _ _ r h => by simp [impl_SketchSolve.l2] at h⟩
 | k + 1 => by
  obtain ⟨ih0, ih1, ih2⟩ := impl_SketchSolve.mono_l k
  refine ⟨?_, ?_, ?_⟩
  ·intro y0 y1 y2 y3 y4
   unfold impl_SketchSolve.l0
   repeat' first
   | (with_reducible exact ih0 _ _ _ _ _)
   | (with_reducible exact ih1 _ _ _ _)
   | (with_reducible exact ih2 _ _ _ _)
   | (with_reducible exact impl_SketchOK.mono _ _ _)
   | (with_reducible exact impl_leastOf.mono _ _ _ _)
   | (with_reducible exact LeO.refl _)
   | (with_reducible exact LeO.none _)
   | (with_reducible refine LeO.ite ?_ ?_)
   | (with_reducible refine LeO.bind ?_ (fun _ => ?_))
   | exact ih0 _ _ _ _ _
   | exact ih1 _ _ _ _
   | exact ih2 _ _ _ _
   | exact impl_SketchOK.mono _ _ _
   | exact impl_leastOf.mono _ _ _ _
   | exact LeO.none _
   | refine LeO.ite ?_ ?_
   | refine LeO.bind ?_ (fun _ => ?_)
  ·intro y0 y1 y2 y3
   unfold impl_SketchSolve.l1
   repeat' first
   | (with_reducible exact ih0 _ _ _ _ _)
   | (with_reducible exact ih1 _ _ _ _)
   | (with_reducible exact ih2 _ _ _ _)
   | (with_reducible exact impl_SketchOK.mono _ _ _)
   | (with_reducible exact impl_leastOf.mono _ _ _ _)
   | (with_reducible exact LeO.refl _)
   | (with_reducible exact LeO.none _)
   | (with_reducible refine LeO.ite ?_ ?_)
   | (with_reducible refine LeO.bind ?_ (fun _ => ?_))
   | exact ih0 _ _ _ _ _
   | exact ih1 _ _ _ _
   | exact ih2 _ _ _ _
   | exact impl_SketchOK.mono _ _ _
   | exact impl_leastOf.mono _ _ _ _
   | exact LeO.none _
   | refine LeO.ite ?_ ?_
   | refine LeO.bind ?_ (fun _ => ?_)
  ·intro y0 y1 y2 y3
   unfold impl_SketchSolve.l2
   repeat' first
   | (with_reducible exact ih0 _ _ _ _ _)
   | (with_reducible exact ih1 _ _ _ _)
   | (with_reducible exact ih2 _ _ _ _)
   | (with_reducible exact impl_SketchOK.mono _ _ _)
   | (with_reducible exact impl_leastOf.mono _ _ _ _)
   | (with_reducible exact LeO.refl _)
   | (with_reducible exact LeO.none _)
   | (with_reducible refine LeO.ite ?_ ?_)
   | (with_reducible refine LeO.bind ?_ (fun _ => ?_))
   | exact ih0 _ _ _ _ _
   | exact ih1 _ _ _ _
   | exact ih2 _ _ _ _
   | exact impl_SketchOK.mono _ _ _
   | exact impl_leastOf.mono _ _ _ _
   | exact LeO.none _
   | refine LeO.ite ?_ ?_
   | refine LeO.bind ?_ (fun _ => ?_)
theorem impl_SketchSolve.mono : ∀ a0 a1 k, LeO (impl_SketchSolve.f k a0 a1) (impl_SketchSolve.f (k + 1) a0 a1) := by
 intro a0 a1 k
 obtain ⟨ih0, ih1, ih2⟩ := impl_SketchSolve.mono_l k
 unfold impl_SketchSolve.f
 repeat' first
   | (with_reducible exact ih0 _ _ _ _ _)
   | (with_reducible exact ih1 _ _ _ _)
   | (with_reducible exact ih2 _ _ _ _)
   | (with_reducible exact impl_SketchOK.mono _ _ _)
   | (with_reducible exact impl_leastOf.mono _ _ _ _)
   | (with_reducible exact LeO.refl _)
   | (with_reducible exact LeO.none _)
   | (with_reducible refine LeO.ite ?_ ?_)
   | (with_reducible refine LeO.bind ?_ (fun _ => ?_))
   | exact ih0 _ _ _ _ _
   | exact ih1 _ _ _ _
   | exact ih2 _ _ _ _
   | exact impl_SketchOK.mono _ _ _
   | exact impl_leastOf.mono _ _ _ _
   | exact LeO.none _
   | refine LeO.ite ?_ ?_
   | refine LeO.bind ?_ (fun _ => ?_)
set_option maxHeartbeats 8000000 in
set_option maxRecDepth 100000 in
theorem impl_SketchSolve.calls (k : Nat) (a0_0 : Int) (A0_1 : Option Addr) (c0_1 : Nat) (l0_1 : List (S35)) (r1 : List (S48)) (r2 : Int) (r3 : List Int) (w : World) (hr0_1 : Kd.C k35 w A0_1 l0_1.length l0_1) (hc0_1 : l0_1.length ≤ c0_1) (h : impl_SketchSolve.f k a0_0 l0_1 = some (r1, r2, r3)) :
  Calls Try.prog 9 #[.agg #[.int .i64 a0_0, .slice A0_1 l0_1.length c0_1]] w fun e w' => ∃ v0_ v2_ : Value, e = .returned (.tuple #[v0_, .int .i64 r2, v2_]) ∧ Kd.R k48 48 w' w.heap.size (fun _ => True) v0_ r1 ∧ Kd.R (Kd.int .i64) 3 w' w.heap.size (fun _ => True) v2_ r3 ∧ Below w.heap.size w w' := by
 have hu25 := Try.underlying25
 have HR0_1 := zA hr0_1
 have HC0_1 := zA hc0_1
 clear hr0_1 hc0_1
 have HB := zA (Below.refl w.heap.size w)
 have H : ((impl_SketchOK.f k a0_0 l0_1).bind fun t191 => (if t191 = true then (if 0 ≤ (l0_1.length : Int) then (if ((l0_1.length : Int) : Int).toNat ≤ 281474976710656 then ((some (List.replicate ((l0_1.length : Int) : Int).toNat false : List Bool)).bind fun y192 => (impl_SketchSolve.l0 k y192 (y192.length : Int) 0 a0_0 l0_1)) else (none)) else (none)) else (some (([] : List (S48)), 1, ([] : List Int))))) = some (r1, r2, r3) := h
 clear h
 replace H := Option.bind_eq_some_iff.mp H
 obtain ⟨t191, A20, H⟩ := H
 replace H : (if t191 = true then (if 0 ≤ (l0_1.length : Int) then (if ((l0_1.length : Int) : Int).toNat ≤ 281474976710656 then ((some (List.replicate ((l0_1.length : Int) : Int).toNat false : List Bool)).bind fun y192 => (impl_SketchSolve.l0 k y192 (y192.length : Int) 0 a0_0 l0_1)) else (none)) else (none)) else (some (([] : List (S48)), 1, ([] : List Int)))) = some (r1, r2, r3) := H
 have A2 := zA A20
 clear A20
 by_cases c3 : t191 = true
 ·subst c3
  have H1 : (if 0 ≤ (l0_1.length : Int) then (if ((l0_1.length : Int) : Int).toNat ≤ 281474976710656 then ((some (List.replicate ((l0_1.length : Int) : Int).toNat false : List Bool)).bind fun y192 => (impl_SketchSolve.l0 k y192 (y192.length : Int) 0 a0_0 l0_1)) else (none)) else (none)) = some (r1, r2, r3) := by rw [if_pos rfl] at H; exact H
  clear H
  have H := H1
  clear H1
  by_cases c4 : 0 ≤ (l0_1.length : Int)
  ·rw [if_pos c4] at H
   have c4b0 := eq_true c4
   have c4b1 : decide (0 ≤ (l0_1.length : Int)) = true := decide_eq_true c4
   clear c4
   by_cases c5 : ((l0_1.length : Int) : Int).toNat ≤ 281474976710656
   ·rw [if_pos c5] at H
    have c5b0 := eq_true c5
    have c5b1 : decide (((l0_1.length : Int) : Int).toNat ≤ 281474976710656) = true := decide_eq_true c5
    clear c5
    obtain ⟨y192, hy192⟩ : ∃ y_ : List Bool, y_ = (List.replicate ((l0_1.length : Int) : Int).toNat false) := ⟨_, rfl⟩
    replace H : (impl_SketchSolve.l0 k y192 (y192.length : Int) 0 a0_0 l0_1) = some (r1, r2, r3) := by first | (rw [hy192]; with_reducible exact H) | (have H2_ := (Option.bind_some _ _).symm.trans H; rw [hy192]; with_reducible exact H2_) | (have H2_ := (Option.bind_some _ _).symm.trans H; with_reducible exact H2_) | with_reducible exact H | (rw [hy192]; exact H) | exact H
    have Ny192 := zA hy192
    clear hy192
    have H' := zA H
    clear H
    go_enter Try.func9, Try.ntmps9
    go_wp2_with (first | ((with_reducible refine gate_dst (N := 1) rfl ?_); refine box_event ?hg (N := 1) ?hd (cs := #[.int .i64 a0_0, .slice A0_1 l0_1.length c0_1]) (t := 25) ?hr ?_; (case hd => rfl); (case hg => rfl); (case hr => first | (go_simp; done) | (go_simp; rfl)); intro gb190 hg w6 hbox hb; have n0_ := zA (below_step (bB_ HB) hb); have n1_ := zA (hbox); have n2_ := zA ((by rw [hg]; exact (zT (bB_ HB)) : w.heap.size ≤ gb190)); have n3_ := zA ((by rw [hg]; exact (zT (bB_ HB)) : w.heap.size ≤ gb190)); clear HB; have HB := n0_; have BK190 := n1_; have GW190 := n2_; have GE190 := n3_; clear n0_ n1_ n2_ n3_; clear hb hbox hg; have hcz7_0 : w6.cell? ⟨gb190, 0, none⟩ = some (.int .i64 a0_0) := (blk_cell BK190.out 0).trans rfl; have hcz7_1 : w6.cell? ⟨gb190, 1, none⟩ = some (.slice A0_1 l0_1.length c0_1) := (blk_cell BK190.out 1).trans rfl; have hfz7_0 := blk_frozen BK190.out 0; have hfz7_1 := blk_frozen BK190.out 1) | ((with_reducible refine gate_callee (f := 18) rfl ?_); refine goesL_ (some 16) rfl rfl Try.func18 (by kernel_rfl) rfl #[.agg #[.int .i64 a0_0, .slice A0_1 l0_1.length c0_1]] rfl (by (try simp only [List.map_toArray, List.map_cons, List.map_nil]); first | done | rfl | (simp only [List.length_drop, List.length_take]; rfl)) ?_; (with_reducible refine (impl_SketchOK.calls k a0_0 _ _ l0_1 true _ ?side1 ?side2 A2.out).mono ?_); (case side1 => repeat (first | exact (Kd.C_below HR0_1.out HB.out) | (with_reducible refine zI ?_ _) | (with_reducible refine zH ?_ _) | (with_reducible refine zJ ?_))); (case side2 => exact HC0_1.out); rintro e w8 ⟨rfl, hb⟩; refine ⟨_, rfl, ?_⟩; have n0_ := zA (zU (g := gb190) (o := .cells #[.int .i64 a0_0, .slice A0_1 l0_1.length c0_1] 25 (0, 0)) (bA_ BK190) hb); have n1_ := zA (below_step (bB_ HB) hb); clear BK190; clear HB; have BK190 := n0_; have HB := n1_; clear n0_ n1_; (try clear hb); (try clear hb2); (try clear hk); (try clear hi); have hcz9_0 : w8.cell? ⟨gb190, 0, none⟩ = some (.int .i64 a0_0) := (blk_cell BK190.out 0).trans rfl; have hcz9_1 : w8.cell? ⟨gb190, 1, none⟩ = some (.slice A0_1 l0_1.length c0_1) := (blk_cell BK190.out 1).trans rfl; have hfz9_0 := blk_frozen BK190.out 0; have hfz9_1 := blk_frozen BK190.out 1) | ((with_reducible refine gate_dst (N := 21) rfl ?_); refine Kd.R_make Kd.bool _ 4 rfl (N := 21) rfl 59 _ _ rfl (l0_1.length : Int) rfl rfl Try.underlying59 (.bool false) 1 info4 rfl (by decide) (by omega) false (ok := fun _ => True) (okp := fun _ => True) rfl (fun _ hk => hk) trivial (of_decide_eq_true (by first | (with_reducible assumption) | assumption)) (Nat.le_trans (Nat.mul_le_mul_right _ (of_decide_eq_true (by first | (with_reducible assumption) | assumption) : (l0_1.length : Int).toNat ≤ 281474976710656)) (by omega)) (Below.refl _ _) (Nat.le_refl _) ?_; intro v193 w10 ho11 hb hg_ hnew_; clear hg_ hnew_; (first | rw [← Ny192.out] at ho11 | (simp only [Int.reduceToNat] at ho11; rw [← Ny192.out] at ho11)); have n0_ := zA (Kd.R_lower ho11 (zT (bB_ HB))); have n1_ := zA (zU (g := gb190) (o := .cells #[.int .i64 a0_0, .slice A0_1 l0_1.length c0_1] 25 (0, 0)) (bA_ BK190) hb); have n2_ := zA (below_step (bB_ HB) hb); clear BK190; clear HB; have HO194 := n0_; have BK190 := n1_; have HB := n2_; clear n0_ n1_ n2_; clear hb ho11; obtain ⟨Ao12, co12, eo12⟩ := Kd.R_slice HO194.out; subst eo12))
    go_loopg [24] k (fun kq v24 w' => ∃ (x5_1 : List Bool) (x24_1 : Int), v24 = .int .i64 x24_1 ∧ Aside0 (impl_SketchSolve.l0 kq x5_1 (y192.length : Int) x24_1 a0_0 l0_1 = some (r1, r2, r3)) ∧ Aside0 (kq ≤ k) ∧ Aside0 (Kd.R Kd.bool 4 w' w.heap.size (fun _ => True) (.slice Ao12 y192.length co12) x5_1) ∧ Aside0 (w'.heap[gb190]? = some (.cells #[.int .i64 a0_0, (.slice A0_1 l0_1.length c0_1)] 25 (0, 0))) ∧ Aside0 (Below w.heap.size w w'))
    case atStart => exact ⟨(y192), (0), (by first | rfl | (simp; done) | (simp [*]; done)), H', ⟨Nat.le_refl _⟩, ⟨bC_ HO194⟩, ⟨bA_ BK190⟩, ⟨bB_ HB⟩⟩
    case round =>
     clear H'
     try clear c1
     try clear p2
     try clear c3
     try clear c4
     try clear c4b0
     try clear c4b1
     try clear c5
     try clear c5b0
     try clear c5b1
     try clear c9
     try clear hcz7_0
     try clear hcz7_1
     try clear hcz9_0
     try clear hcz9_1
     try clear hfz7_0
     try clear hfz7_1
     try clear hfz9_0
     try clear hfz9_1
     obtain ⟨x5_1, x24_1, rfl, HA, HK1, HO_5, BK190, HB⟩ := hrel
     have hl5_1 := (zK HO_5.out).1
     rw [hl5_1] at HO_5
     (try simp only [hl5_1])
     (try simp only [hl5_1] at BK190)
     cases gk with
     | zero => exact absurd HA.out (by simp [impl_SketchSolve.l0])
     | succ k1 =>
      have H := HA.out
      clear HA
      simp only [impl_SketchSolve.l0] at H
      by_cases c13 : x24_1 < (y192.length : Int)
      ·rw [if_pos c13] at H
       have c13b0 : decide (x24_1 < (y192.length : Int)) = true := decide_eq_true c13
       (try (have c13b0l := c13b0; rw [hl5_1] at c13b0l))
       clear c13
       by_cases c14 : 0 ≤ x24_1
       ·rw [if_pos c14] at H
        have c14b0 : decide (0 ≤ x24_1) = true := decide_eq_true c14
        clear c14
        by_cases c15 : x24_1 < (x5_1.length : Int)
        ·rw [if_pos c15] at H
         have c15b0 : decide (x24_1 < (x5_1.length : Int)) = true := decide_eq_true c15
         (try (have c15b0l := c15b0; rw [hl5_1] at c15b0l))
         clear c15
         obtain ⟨y195, hy195⟩ : ∃ y_ : List Bool, y_ = (x5_1.set (x24_1 : Int).toNat true) := ⟨_, rfl⟩
         replace H : (impl_SketchSolve.l0 k1 y195 (y192.length : Int) (wrap64 (x24_1 + 1)) a0_0 l0_1) = some (r1, r2, r3) := by first | (rw [hy195]; with_reducible exact H) | (have H2_ := (Option.bind_some _ _).symm.trans H; rw [hy195]; with_reducible exact H2_) | (have H2_ := (Option.bind_some _ _).symm.trans H; with_reducible exact H2_) | with_reducible exact H | (rw [hy195]; exact H) | exact H
         have Ny195 := zA hy195
         clear hy195
         have H' := zA H
         clear H
         have p16 : 0 ≤ (x24_1 : Int) := of_decide_eq_true (by first | (with_reducible assumption) | assumption)
         have q16 : (x24_1 : Int) < ((x5_1.length : Int) : Int) := of_decide_eq_true (by first | (with_reducible assumption) | assumption)
         obtain ⟨go16, co16, eo16, gb16, gl16, cl16, HG16⟩ := Kd.R_form HO_5.out (by omega)
         (first | cases eo16 | (injection eo16 with ea_ en_ ec_; (first | subst ea_ | (injection ea_ with ea_; subst ea_)); subst ec_; clear en_))
         have GB16 := zA gb16
         have GG16 := zA HG16
         clear gb16 gl16 HG16
         obtain ⟨hx16_0, hf16_0⟩ := Kd.R_celln false HO_5.out (x24_1 : Int) p16 q16
         replace p16 := eq_true p16
         replace q16 := eq_true q16
         have HP17 := Kd.R_putg HO_5.out (x24_1 : Int) true
         go_wp2_with (first | ((with_reducible refine gate_store (t := 4) (p := 29) rfl ?_); refine store_event (t := 4) (p := 29) (v := ?vo_w18) (w1 := (wr.setCell ⟨go16, (x24_1 : Int).toNat, none⟩ (.bool true))) ?hg ?ho ?hn ?hr ?_; (case ho => rfl); (case hg => rfl); (case hn => rfl); (case hr => first | (go_simp; done) | (go_simp; rfl)); intro w18 hw; have hg : wr.grownBy w18 (some go16) := (by rw [hw]; exact HP17.2); have hp_ : Kd.R Kd.bool 4 w18 w.heap.size (fun _ => True) (.slice (some ⟨go16, 0, none⟩) x5_1.length co12) y195 := (by rw [hw, Ny195.out]; exact HP17.1); clear HP17; have n0_ := zA (hp_); have n1_ := zA (blk_grown (g := gb190) (o := .cells #[.int .i64 a0_0, .slice A0_1 l0_1.length c0_1] 25 (0, 0)) (bA_ BK190) hg (Kd.R_ne HO_5.out BK190.out (by decide))); have n2_ := zA ((by rw [hw]; exact zS (HB.out) GB16.out : Below w.heap.size w w18)); clear HO_5; clear BK190; clear HB; have HO_5 := n0_; have BK190 := n1_; have HB := n2_; clear n0_ n1_ n2_; clear hg hw hp_))
         (try simp only [← hl5_1])
         go_roundg k1
         case measure => have := HK1.out; omega
         case rel => exact ⟨(y195), (wrap64 (x24_1 + 1)), (by first | rfl | (simp; done) | (simp [*]; done)), H', ⟨by have := HK1.out; omega⟩, ⟨by (try simp only [hl5_1]); (with_reducible repeat (first | apply zF | apply zE | apply zG)); exact HO_5.out⟩, ⟨by (try simp only [hl5_1]); (with_reducible repeat (first | refine zM ?_ _ | refine zN ?_ | refine zO ?_ _)); exact BK190.out⟩, ⟨bB_ HB⟩⟩
        ·rw [if_neg c15] at H
         exact absurd H (by simp)
       ·rw [if_neg c14] at H
        exact absurd H (by simp)
      ·rw [if_neg c13] at H
       have c13b0 : decide (x24_1 < (y192.length : Int)) = false := decide_eq_false c13
       (try (have c13b0l := c13b0; rw [hl5_1] at c13b0l))
       clear c13
       replace H := Option.bind_eq_some_iff.mp H
       obtain ⟨⟨t196, t199⟩, A190, H⟩ := H
       replace H : (if t199 = true then (some (t196, 0, ([] : List Int))) else (impl_SketchSolve.l1 k1 x5_1 (wrap64 ((x5_1.length : Int) - 1)) a0_0 l0_1)) = some (r1, r2, r3) := H
       have A19 := zA A190
       clear A190
       by_cases c20 : t199 = true
       ·subst c20
        have H1 : (some (t196, 0, ([] : List Int))) = some (r1, r2, r3) := by rw [if_pos rfl] at H; exact H
        clear H
        have H := H1
        clear H1
        simp only [Option.some.injEq, Prod.mk.injEq] at H
        obtain ⟨rfl, rfl, rfl⟩ := H
        have hcz21_0 : wr.cell? ⟨gb190, 0, none⟩ = some (.int .i64 a0_0) := (blk_cell BK190.out 0).trans rfl
        have hcz21_1 : wr.cell? ⟨gb190, 1, none⟩ = some (.slice A0_1 l0_1.length c0_1) := (blk_cell BK190.out 1).trans rfl
        have hfz21_0 := blk_frozen BK190.out 0
        have hfz21_1 := blk_frozen BK190.out 1
        go_wp2_with (first | ((with_reducible refine gate_callee (f := 33) rfl ?_); refine goesL_ (some 34) rfl rfl Try.func33 (by kernel_rfl) rfl #[.agg #[.int .i64 a0_0, .slice A0_1 l0_1.length c0_1], .slice Ao12 x5_1.length co12] rfl (by (try simp only [List.map_toArray, List.map_cons, List.map_nil]); first | done | rfl | (simp only [List.length_drop, List.length_take]; rfl)) ?_; (with_reducible refine (impl_leastOf.calls k1 a0_0 _ _ l0_1 _ _ x5_1 t196 true _ ?side1 ?side2 ?side3 ?side4 A19.out).mono ?_); (case side1 => repeat (first | exact (Kd.C_below HR0_1.out HB.out) | (with_reducible refine zI ?_ _) | (with_reducible refine zH ?_ _) | (with_reducible refine zJ ?_))); (case side2 => exact HC0_1.out); (case side3 => repeat (first | exact (zK HO_5.out).2.2 | (with_reducible refine zI ?_ _) | (with_reducible refine zH ?_ _) | (with_reducible refine zJ ?_))); (case side4 => exact (zK HO_5.out).2.1); rintro e w22 ⟨v197, rfl, ho0, hb⟩; refine ⟨_, rfl, ?_⟩; have n0_ := zA (zL (bC_ HO_5) hb); have n1_ := zA (Kd.R_lower ho0 (zT (bB_ HB))); have n2_ := zA (zU (g := gb190) (o := .cells #[.int .i64 a0_0, .slice A0_1 l0_1.length c0_1] 25 (0, 0)) (bA_ BK190) hb); have n3_ := zA (below_step (bB_ HB) hb); clear HO_5; clear BK190; clear HB; have HO_5 := n0_; have HO198 := n1_; have BK190 := n2_; have HB := n3_; clear n0_ n1_ n2_ n3_; (try clear hb); (try clear hb2); (try clear hk); (try clear hi); (try clear ho0)))
        go_ret3
        exact ⟨_, _, by first | rfl | (simp [errW_none, errW_some] <;> rfl) | (simp [*, errW_none, errW_some] <;> rfl), bC_ HO198, by first | exact Kd.R_nil _ _ _ _ _ | exact Kd.N_nil _ _ _ _ _ | exact Kd.V_nil _ _ _ _ _ | exact Kd.Q_nil _ _ _ _ _ | exact Kd.S_nil _ _ _ _ _, bB_ HB⟩
       ·replace c20 := Bool.eq_false_iff.mpr c20
        subst c20
        have H1 : (impl_SketchSolve.l1 k1 x5_1 (wrap64 ((x5_1.length : Int) - 1)) a0_0 l0_1) = some (r1, r2, r3) := by rw [if_neg (show ¬ (false = true) by decide)] at H; exact H
        clear H
        have H := H1
        clear H1
        have H' := zA H
        clear H
        have hcz23_0 : wr.cell? ⟨gb190, 0, none⟩ = some (.int .i64 a0_0) := (blk_cell BK190.out 0).trans rfl
        have hcz23_1 : wr.cell? ⟨gb190, 1, none⟩ = some (.slice A0_1 l0_1.length c0_1) := (blk_cell BK190.out 1).trans rfl
        have hfz23_0 := blk_frozen BK190.out 0
        have hfz23_1 := blk_frozen BK190.out 1
        go_wp2_with (first | ((with_reducible refine gate_callee (f := 33) rfl ?_); refine goesL_ (some 34) rfl rfl Try.func33 (by kernel_rfl) rfl #[.agg #[.int .i64 a0_0, .slice A0_1 l0_1.length c0_1], .slice Ao12 x5_1.length co12] rfl (by (try simp only [List.map_toArray, List.map_cons, List.map_nil]); first | done | rfl | (simp only [List.length_drop, List.length_take]; rfl)) ?_; (with_reducible refine (impl_leastOf.calls k1 a0_0 _ _ l0_1 _ _ x5_1 t196 false _ ?side1 ?side2 ?side3 ?side4 A19.out).mono ?_); (case side1 => repeat (first | exact (Kd.C_below HR0_1.out HB.out) | (with_reducible refine zI ?_ _) | (with_reducible refine zH ?_ _) | (with_reducible refine zJ ?_))); (case side2 => exact HC0_1.out); (case side3 => repeat (first | exact (zK HO_5.out).2.2 | (with_reducible refine zI ?_ _) | (with_reducible refine zH ?_ _) | (with_reducible refine zJ ?_))); (case side4 => exact (zK HO_5.out).2.1); rintro e w24 ⟨v197, rfl, ho0, hb⟩; refine ⟨_, rfl, ?_⟩; have n0_ := zA (zL (bC_ HO_5) hb); have n1_ := zA (Kd.R_lower ho0 (zT (bB_ HB))); have n2_ := zA (zU (g := gb190) (o := .cells #[.int .i64 a0_0, .slice A0_1 l0_1.length c0_1] 25 (0, 0)) (bA_ BK190) hb); have n3_ := zA (below_step (bB_ HB) hb); clear HO_5; clear BK190; clear HB; have HO_5 := n0_; have HO198 := n1_; have BK190 := n2_; have HB := n3_; clear n0_ n1_ n2_ n3_; (try clear hb); (try clear hb2); (try clear hk); (try clear hi); (try clear ho0)))
        go_loopg [9] k1 (fun kq v9 w' => ∃ (x5_2 : List Bool) (x9_2 : Int), v9 = .int .i64 x9_2 ∧ Aside0 (impl_SketchSolve.l1 kq x5_2 x9_2 a0_0 l0_1 = some (r1, r2, r3)) ∧ Aside0 (kq ≤ k1) ∧ Aside0 (Kd.R Kd.bool 4 w' w.heap.size (fun _ => True) (.slice Ao12 x5_1.length co12) x5_2) ∧ Aside0 (w'.heap[gb190]? = some (.cells #[.int .i64 a0_0, (.slice A0_1 l0_1.length c0_1)] 25 (0, 0))) ∧ Aside0 (Below w.heap.size w w'))
        case atStart => exact ⟨(x5_1), (wrap64 ((x5_1.length : Int) - 1)), (by first | rfl | (simp; done) | (simp [*]; done)), H', ⟨Nat.le_refl _⟩, ⟨by (try simp only [hl5_1]); (with_reducible repeat (first | apply zF | apply zE | apply zG)); exact HO_5.out⟩, ⟨by (try simp only [hl5_1]); (with_reducible repeat (first | refine zM ?_ _ | refine zN ?_ | refine zO ?_ _)); exact BK190.out⟩, ⟨bB_ HB⟩⟩
        case round =>
         clear H'
         try clear c1
         try clear p1
         try clear q1
         try clear hx1
         try clear hf1
         try clear c2
         try clear p2
         try clear c3
         try clear c4
         try clear c4b0
         try clear c4b1
         try clear c5
         try clear c5b0
         try clear c5b1
         try clear p6
         try clear c9
         try clear c13
         try clear c13b0
         try clear c14
         try clear c14b0
         try clear c15
         try clear c15b0
         try clear p16
         try clear q16
         try clear hx16
         try clear hf16
         try clear c18
         try clear c20
         try clear hcz21_0
         try clear hcz21_1
         try clear hcz23_0
         try clear hcz23_1
         try clear hcz7_0
         try clear hcz7_1
         try clear hcz9_0
         try clear hcz9_1
         try clear hfz21_0
         try clear hfz21_1
         try clear hfz23_0
         try clear hfz23_1
         try clear hfz7_0
         try clear hfz7_1
         try clear hfz9_0
         try clear hfz9_1
         try clear hx16_0
         try clear p16
         try clear p2
         try clear q16
         obtain ⟨x5_2, x9_2, rfl, HA, HK2, HO_5, BK190, HB⟩ := hrel
         have hl5_2 := (zK HO_5.out).1
         rw [hl5_2] at HO_5
         (try simp only [hl5_2])
         (try simp only [hl5_2] at BK190)
         cases gk with
         | zero => exact absurd HA.out (by simp [impl_SketchSolve.l1])
         | succ k2 =>
          have H := HA.out
          clear HA
          simp only [impl_SketchSolve.l1] at H
          by_cases c25 : x9_2 ≥ 0
          ·rw [if_pos c25] at H
           have c25b0 : decide (0 ≤ x9_2) = true := decide_eq_true c25
           clear c25
           by_cases c26 : 0 ≤ x9_2
           ·rw [if_pos c26] at H
            have c26b0 : decide (0 ≤ x9_2) = true := decide_eq_true c26
            clear c26
            by_cases c27 : x9_2 < (x5_2.length : Int)
            ·rw [if_pos c27] at H
             have c27b0 : decide (x9_2 < (x5_2.length : Int)) = true := decide_eq_true c27
             (try (have c27b0l := c27b0; rw [hl5_1] at c27b0l))
             (try (have c27b0l := c27b0; rw [hl5_2] at c27b0l))
             clear c27
             obtain ⟨y200, hy200⟩ : ∃ y_ : List Bool, y_ = (x5_2.set (x9_2 : Int).toNat false) := ⟨_, rfl⟩
             replace H : ((impl_leastOf.f k2 a0_0 l0_1 y200).bind fun bt201 => (if bt201.2 = true then (impl_SketchSolve.l1 k2 (y200.set (x9_2 : Int).toNat true) (wrap64 (x9_2 - 1)) a0_0 l0_1) else (impl_SketchSolve.l1 k2 y200 (wrap64 (x9_2 - 1)) a0_0 l0_1))) = some (r1, r2, r3) := by first | (rw [hy200]; with_reducible exact H) | (have H2_ := (Option.bind_some _ _).symm.trans H; rw [hy200]; with_reducible exact H2_) | (have H2_ := (Option.bind_some _ _).symm.trans H; with_reducible exact H2_) | with_reducible exact H | (rw [hy200]; exact H) | exact H
             have Ny200 := zA hy200
             clear hy200
             replace H := Option.bind_eq_some_iff.mp H
             obtain ⟨⟨t201, t204⟩, A290, H⟩ := H
             replace H : (if t204 = true then (impl_SketchSolve.l1 k2 (y200.set (x9_2 : Int).toNat true) (wrap64 (x9_2 - 1)) a0_0 l0_1) else (impl_SketchSolve.l1 k2 y200 (wrap64 (x9_2 - 1)) a0_0 l0_1)) = some (r1, r2, r3) := H
             have A29 := zA A290
             clear A290
             by_cases c30 : t204 = true
             ·subst c30
              have H1 : (impl_SketchSolve.l1 k2 (y200.set (x9_2 : Int).toNat true) (wrap64 (x9_2 - 1)) a0_0 l0_1) = some (r1, r2, r3) := by rw [if_pos rfl] at H; exact H
              clear H
              have H := H1
              clear H1
              obtain ⟨y205, hy205⟩ : ∃ y_ : List Bool, y_ = (y200.set (x9_2 : Int).toNat true) := ⟨_, rfl⟩
              replace H : (impl_SketchSolve.l1 k2 y205 (wrap64 (x9_2 - 1)) a0_0 l0_1) = some (r1, r2, r3) := by first | (rw [hy205]; with_reducible exact H) | (have H2_ := (Option.bind_some _ _).symm.trans H; rw [hy205]; with_reducible exact H2_) | (have H2_ := (Option.bind_some _ _).symm.trans H; with_reducible exact H2_) | with_reducible exact H | (rw [hy205]; exact H) | exact H
              have Ny205 := zA hy205
              clear hy205
              have H' := zA H
              clear H
              have p28 : 0 ≤ (x9_2 : Int) := of_decide_eq_true (by first | (with_reducible assumption) | assumption)
              have q28 : (x9_2 : Int) < ((x5_2.length : Int) : Int) := of_decide_eq_true (by first | (with_reducible assumption) | assumption)
              obtain ⟨go28, co28, eo28, gb28, gl28, cl28, HG28⟩ := Kd.R_form HO_5.out (by omega)
              (first | cases eo28 | (injection eo28 with ea_ en_ ec_; (first | subst ea_ | (injection ea_ with ea_; subst ea_)); subst ec_; clear en_))
              have GB28 := zA gb28
              have GG28 := zA HG28
              clear gb28 gl28 HG28
              obtain ⟨hx28_0, hf28_0⟩ := Kd.R_celln false HO_5.out (x9_2 : Int) p28 q28
              replace p28 := eq_true p28
              replace q28 := eq_true q28
              have HP32 := Kd.R_putg HO_5.out (x9_2 : Int) false
              go_wp2_with (first | ((with_reducible refine gate_store (t := 4) (p := 48) rfl ?_); refine store_event (t := 4) (p := 48) (v := ?vo_w33) (w1 := (wr.setCell ⟨go28, (x9_2 : Int).toNat, none⟩ (.bool false))) ?hg ?ho ?hn ?hr ?_; (case ho => rfl); (case hg => rfl); (case hn => rfl); (case hr => first | (go_simp; done) | (go_simp; rfl)); intro w33 hw; have hg : wr.grownBy w33 (some go28) := (by rw [hw]; exact HP32.2); have hp_ : Kd.R Kd.bool 4 w33 w.heap.size (fun _ => True) (.slice (some ⟨go28, 0, none⟩) x5_2.length co12) y200 := (by rw [hw, Ny200.out]; exact HP32.1); clear HP32; have n0_ := zA (hp_); have n1_ := zA (blk_grown (g := gb190) (o := .cells #[.int .i64 a0_0, .slice A0_1 l0_1.length c0_1] 25 (0, 0)) (bA_ BK190) hg (Kd.R_ne HO_5.out BK190.out (by decide))); have n2_ := zA ((by rw [hw]; exact zS (HB.out) GB28.out : Below w.heap.size w w33)); clear HO_5; clear BK190; clear HB; have HO_5 := n0_; have BK190 := n1_; have HB := n2_; clear n0_ n1_ n2_; clear hg hw hp_; have hcz34_0 : w33.cell? ⟨gb190, 0, none⟩ = some (.int .i64 a0_0) := (blk_cell BK190.out 0).trans rfl; have hcz34_1 : w33.cell? ⟨gb190, 1, none⟩ = some (.slice A0_1 l0_1.length c0_1) := (blk_cell BK190.out 1).trans rfl; have hfz34_0 := blk_frozen BK190.out 0; have hfz34_1 := blk_frozen BK190.out 1) | ((with_reducible refine gate_callee (f := 33) rfl ?_); refine goesL_ (some 52) rfl rfl Try.func33 (by kernel_rfl) rfl #[.agg #[.int .i64 a0_0, .slice A0_1 l0_1.length c0_1], .slice (some ⟨go28, 0, none⟩) y200.length co12] rfl (by (try simp only [List.map_toArray, List.map_cons, List.map_nil]); first | done | (rw [show y200.length = x5_2.length from (zK HO_5.out).1.symm] <;> rfl) | rfl | (simp only [List.length_drop, List.length_take]; rfl)) ?_; (with_reducible refine (impl_leastOf.calls k2 a0_0 _ _ l0_1 _ _ y200 t201 true _ ?side1 ?side2 ?side3 ?side4 A29.out).mono ?_); (case side1 => repeat (first | exact (Kd.C_below HR0_1.out HB.out) | (with_reducible refine zI ?_ _) | (with_reducible refine zH ?_ _) | (with_reducible refine zJ ?_))); (case side2 => exact HC0_1.out); (case side3 => repeat (first | exact (zK HO_5.out).2.2 | (with_reducible refine zI ?_ _) | (with_reducible refine zH ?_ _) | (with_reducible refine zJ ?_))); (case side4 => rw [show y200.length = x5_2.length from (zK HO_5.out).1.symm]; exact (zK HO_5.out).2.1); rintro e w35 ⟨v202, rfl, ho0, hb⟩; refine ⟨_, rfl, ?_⟩; have n0_ := zA (zL (bC_ HO_5) hb); have n1_ := zA (Kd.R_lower ho0 (zT (bB_ HB))); have n2_ := zA (zU (g := gb190) (o := .cells #[.int .i64 a0_0, .slice A0_1 l0_1.length c0_1] 25 (0, 0)) (bA_ BK190) hb); have n3_ := zA (below_step (bB_ HB) hb); clear HO_5; clear BK190; clear HB; have HO_5 := n0_; have HO203 := n1_; have BK190 := n2_; have HB := n3_; clear n0_ n1_ n2_ n3_; (try clear hb); (try clear hb2); (try clear hk); (try clear hi); (try clear ho0); have p31 : 0 ≤ (x9_2 : Int) := of_decide_eq_true (by first | (with_reducible assumption) | assumption); have q31 : (x9_2 : Int) < ((x5_2.length : Int) : Int) := of_decide_eq_true (by first | (with_reducible assumption) | assumption); obtain ⟨hx31_0, hf31_0⟩ := Kd.R_celln false HO_5.out (x9_2 : Int) p31 q31; replace p31 := eq_true p31; replace q31 := eq_true q31; obtain ⟨hy36_, hz36_⟩ := Kd.R_celln false HO_5.out (x9_2 : Int) (of_decide_eq_true (by first | (with_reducible assumption) | assumption)) (of_decide_eq_true (by first | (with_reducible assumption) | assumption)); have HP36 := Kd.R_putg HO_5.out (x9_2 : Int) true) | ((with_reducible refine gate_store (t := 4) (p := 58) rfl ?_); refine store_event (t := 4) (p := 58) (v := ?vo_w37) (w1 := (w35.setCell ⟨go28, (x9_2 : Int).toNat, none⟩ (.bool true))) ?hg ?ho ?hn ?hr ?_; (case ho => rfl); (case hg => rfl); (case hn => rfl); (case hr => first | (go_simp; done) | (go_simp; rfl)); intro w37 hw; have hg : w35.grownBy w37 (some go28) := (by rw [hw]; exact HP36.2); have hp_ : Kd.R Kd.bool 4 w37 w.heap.size (fun _ => True) (.slice (some ⟨go28, 0, none⟩) x5_2.length co12) y205 := (by rw [hw, Ny205.out]; exact HP36.1); clear HP36; have n0_ := zA (hp_); have n1_ := zA (blk_grown (g := gb190) (o := .cells #[.int .i64 a0_0, .slice A0_1 l0_1.length c0_1] 25 (0, 0)) (bA_ BK190) hg (Kd.R_ne HO_5.out BK190.out (by decide))); have n2_ := zA (Kd.R_over' (v := (.slice (some ⟨go28, 0, none⟩) x5_2.length co12)) (bC_ HO203) (Kd.R_typed HO_5.out) (by decide) hg); have n3_ := zA ((by rw [hw]; exact zS (HB.out) GB28.out : Below w.heap.size w w37)); clear HO_5; clear BK190; clear HO203; clear HB; have HO_5 := n0_; have BK190 := n1_; have HO203 := n2_; have HB := n3_; clear n0_ n1_ n2_ n3_; clear hg hw hp_))
              (try simp only [← hl5_2])
              go_roundg k2
              case measure => have := HK1.out; have := HK2.out; omega
              case rel => exact ⟨(y205), (wrap64 (x9_2 - 1)), (by first | rfl | (simp; done) | (simp [*]; done)), H', ⟨by have := HK1.out; have := HK2.out; omega⟩, ⟨by (try simp only [hl5_1]); (try simp only [hl5_2]); (with_reducible repeat (first | apply zF | apply zE | apply zG)); exact HO_5.out⟩, ⟨by (try simp only [hl5_1]); (try simp only [hl5_2]); (with_reducible repeat (first | refine zM ?_ _ | refine zN ?_ | refine zO ?_ _)); exact BK190.out⟩, ⟨bB_ HB⟩⟩
             ·replace c30 := Bool.eq_false_iff.mpr c30
              subst c30
              have H1 : (impl_SketchSolve.l1 k2 y200 (wrap64 (x9_2 - 1)) a0_0 l0_1) = some (r1, r2, r3) := by rw [if_neg (show ¬ (false = true) by decide)] at H; exact H
              clear H
              have H := H1
              clear H1
              have H' := zA H
              clear H
              have p28 : 0 ≤ (x9_2 : Int) := of_decide_eq_true (by first | (with_reducible assumption) | assumption)
              have q28 : (x9_2 : Int) < ((x5_2.length : Int) : Int) := of_decide_eq_true (by first | (with_reducible assumption) | assumption)
              obtain ⟨go28, co28, eo28, gb28, gl28, cl28, HG28⟩ := Kd.R_form HO_5.out (by omega)
              (first | cases eo28 | (injection eo28 with ea_ en_ ec_; (first | subst ea_ | (injection ea_ with ea_; subst ea_)); subst ec_; clear en_))
              have GB28 := zA gb28
              have GG28 := zA HG28
              clear gb28 gl28 HG28
              obtain ⟨hx28_0, hf28_0⟩ := Kd.R_celln false HO_5.out (x9_2 : Int) p28 q28
              replace p28 := eq_true p28
              replace q28 := eq_true q28
              have HP38 := Kd.R_putg HO_5.out (x9_2 : Int) false
              go_wp2_with (first | ((with_reducible refine gate_store (t := 4) (p := 48) rfl ?_); refine store_event (t := 4) (p := 48) (v := ?vo_w39) (w1 := (wr.setCell ⟨go28, (x9_2 : Int).toNat, none⟩ (.bool false))) ?hg ?ho ?hn ?hr ?_; (case ho => rfl); (case hg => rfl); (case hn => rfl); (case hr => first | (go_simp; done) | (go_simp; rfl)); intro w39 hw; have hg : wr.grownBy w39 (some go28) := (by rw [hw]; exact HP38.2); have hp_ : Kd.R Kd.bool 4 w39 w.heap.size (fun _ => True) (.slice (some ⟨go28, 0, none⟩) x5_2.length co12) y200 := (by rw [hw, Ny200.out]; exact HP38.1); clear HP38; have n0_ := zA (hp_); have n1_ := zA (blk_grown (g := gb190) (o := .cells #[.int .i64 a0_0, .slice A0_1 l0_1.length c0_1] 25 (0, 0)) (bA_ BK190) hg (Kd.R_ne HO_5.out BK190.out (by decide))); have n2_ := zA ((by rw [hw]; exact zS (HB.out) GB28.out : Below w.heap.size w w39)); clear HO_5; clear BK190; clear HB; have HO_5 := n0_; have BK190 := n1_; have HB := n2_; clear n0_ n1_ n2_; clear hg hw hp_; have hcz40_0 : w39.cell? ⟨gb190, 0, none⟩ = some (.int .i64 a0_0) := (blk_cell BK190.out 0).trans rfl; have hcz40_1 : w39.cell? ⟨gb190, 1, none⟩ = some (.slice A0_1 l0_1.length c0_1) := (blk_cell BK190.out 1).trans rfl; have hfz40_0 := blk_frozen BK190.out 0; have hfz40_1 := blk_frozen BK190.out 1) | ((with_reducible refine gate_callee (f := 33) rfl ?_); refine goesL_ (some 52) rfl rfl Try.func33 (by kernel_rfl) rfl #[.agg #[.int .i64 a0_0, .slice A0_1 l0_1.length c0_1], .slice (some ⟨go28, 0, none⟩) y200.length co12] rfl (by (try simp only [List.map_toArray, List.map_cons, List.map_nil]); first | done | (rw [show y200.length = x5_2.length from (zK HO_5.out).1.symm] <;> rfl) | rfl | (simp only [List.length_drop, List.length_take]; rfl)) ?_; (with_reducible refine (impl_leastOf.calls k2 a0_0 _ _ l0_1 _ _ y200 t201 false _ ?side1 ?side2 ?side3 ?side4 A29.out).mono ?_); (case side1 => repeat (first | exact (Kd.C_below HR0_1.out HB.out) | (with_reducible refine zI ?_ _) | (with_reducible refine zH ?_ _) | (with_reducible refine zJ ?_))); (case side2 => exact HC0_1.out); (case side3 => repeat (first | exact (zK HO_5.out).2.2 | (with_reducible refine zI ?_ _) | (with_reducible refine zH ?_ _) | (with_reducible refine zJ ?_))); (case side4 => rw [show y200.length = x5_2.length from (zK HO_5.out).1.symm]; exact (zK HO_5.out).2.1); rintro e w41 ⟨v202, rfl, ho0, hb⟩; refine ⟨_, rfl, ?_⟩; have n0_ := zA (zL (bC_ HO_5) hb); have n1_ := zA (Kd.R_lower ho0 (zT (bB_ HB))); have n2_ := zA (zU (g := gb190) (o := .cells #[.int .i64 a0_0, .slice A0_1 l0_1.length c0_1] 25 (0, 0)) (bA_ BK190) hb); have n3_ := zA (below_step (bB_ HB) hb); clear HO_5; clear BK190; clear HB; have HO_5 := n0_; have HO203 := n1_; have BK190 := n2_; have HB := n3_; clear n0_ n1_ n2_ n3_; (try clear hb); (try clear hb2); (try clear hk); (try clear hi); (try clear ho0)))
              (try simp only [← hl5_2])
              go_roundg k2
              case measure => have := HK1.out; have := HK2.out; omega
              case rel => exact ⟨(y200), (wrap64 (x9_2 - 1)), (by first | rfl | (simp; done) | (simp [*]; done)), H', ⟨by have := HK1.out; have := HK2.out; omega⟩, ⟨by (try simp only [hl5_1]); (try simp only [hl5_2]); (with_reducible repeat (first | apply zF | apply zE | apply zG)); exact HO_5.out⟩, ⟨by (try simp only [hl5_1]); (try simp only [hl5_2]); (with_reducible repeat (first | refine zM ?_ _ | refine zN ?_ | refine zO ?_ _)); exact BK190.out⟩, ⟨bB_ HB⟩⟩
            ·rw [if_neg c27] at H
             exact absurd H (by simp)
           ·rw [if_neg c26] at H
            exact absurd H (by simp)
          ·rw [if_neg c25] at H
           have c25b0 : decide (0 ≤ x9_2) = false := decide_eq_false c25
           clear c25
           have H' := zA H
           clear H
           go_wp2
           go_loopg [12, 61] k2 (fun kq v12 v61 w' => ∃ (x12_3 : List Int) (x61_3 : Int), v61 = .int .i64 x61_3 ∧ Aside0 (impl_SketchSolve.l2 kq x12_3 x5_2 (x5_2.length : Int) x61_3 = some (r1, r2, r3)) ∧ Aside0 (kq ≤ k2) ∧ Aside0 (Kd.R (Kd.int .i64) 3 w' w.heap.size (fun _ => True) v12 x12_3) ∧ Aside0 (Kd.R Kd.bool 4 w' w.heap.size (fun _ => True) (.slice Ao12 x5_2.length co12) x5_2) ∧ Aside0 (w'.heap[gb190]? = some (.cells #[.int .i64 a0_0, (.slice A0_1 l0_1.length c0_1)] 25 (0, 0))) ∧ Aside0 (Below w.heap.size w w'))
           case atStart => exact ⟨(([] : List Int)), (0), (by first | rfl | (simp; done) | (simp [*]; done)), H', ⟨Nat.le_refl _⟩, ⟨by (try simp only [hl5_1]); (try simp only [hl5_2]); first | exact Kd.R_nil _ _ _ _ _ | exact Kd.N_nil _ _ _ _ _ | exact Kd.V_nil _ _ _ _ _ | exact Kd.Q_nil _ _ _ _ _ | exact Kd.S_nil _ _ _ _ _⟩, ⟨by (try simp only [hl5_1]); (try simp only [hl5_2]); (with_reducible repeat (first | apply zF | apply zE | apply zG)); exact HO_5.out⟩, ⟨by (try simp only [hl5_1]); (try simp only [hl5_2]); (with_reducible repeat (first | refine zM ?_ _ | refine zN ?_ | refine zO ?_ _)); exact BK190.out⟩, ⟨bB_ HB⟩⟩
           case round =>
            clear H'
            try clear c1
            try clear p1
            try clear q1
            try clear hx1
            try clear hf1
            try clear c2
            try clear p2
            try clear q2
            try clear hx2
            try clear hf2
            try clear c3
            try clear p3
            try clear q3
            try clear hx3
            try clear hf3
            try clear c4
            try clear c4b0
            try clear c4b1
            try clear c5
            try clear c5b0
            try clear c5b1
            try clear p6
            try clear c9
            try clear c13
            try clear c13b0
            try clear c14
            try clear c14b0
            try clear c15
            try clear c15b0
            try clear p16
            try clear q16
            try clear hx16
            try clear hf16
            try clear c18
            try clear c20
            try clear c25
            try clear c25b0
            try clear c26
            try clear c26b0
            try clear c27
            try clear c27b0
            try clear p28
            try clear q28
            try clear hx28
            try clear hf28
            try clear c30
            try clear p31
            try clear q31
            try clear hx31
            try clear hf31
            try clear c33
            try clear hcz21_0
            try clear hcz21_1
            try clear hcz23_0
            try clear hcz23_1
            try clear hcz34_0
            try clear hcz34_1
            try clear hcz40_0
            try clear hcz40_1
            try clear hcz7_0
            try clear hcz7_1
            try clear hcz9_0
            try clear hcz9_1
            try clear hfz21_0
            try clear hfz21_1
            try clear hfz23_0
            try clear hfz23_1
            try clear hfz34_0
            try clear hfz34_1
            try clear hfz40_0
            try clear hfz40_1
            try clear hfz7_0
            try clear hfz7_1
            try clear hfz9_0
            try clear hfz9_1
            try clear hx16_0
            try clear hx28_0
            try clear hx31_0
            try clear p1
            try clear p16
            try clear p2
            try clear p28
            try clear p31
            try clear p6
            try clear q1
            try clear q16
            try clear q28
            try clear q31
            obtain ⟨x12_3, x61_3, rfl, HA, HK3, HO_12, HO_59, BK190, HB⟩ := hrel
            cases gk with
            | zero => exact absurd HA.out (by simp [impl_SketchSolve.l2])
            | succ k3 =>
             have H := HA.out
             clear HA
             simp only [impl_SketchSolve.l2] at H
             by_cases c42 : x61_3 < (x5_2.length : Int)
             ·rw [if_pos c42] at H
              have c42b0 : decide (x61_3 < (x5_2.length : Int)) = true := decide_eq_true c42
              (try (have c42b0l := c42b0; rw [hl5_1] at c42b0l))
              (try (have c42b0l := c42b0; rw [hl5_2] at c42b0l))
              clear c42
              by_cases c43 : 0 ≤ x61_3
              ·rw [if_pos c43] at H
               have c43b0 : decide (0 ≤ x61_3) = true := decide_eq_true c43
               clear c43
               by_cases c44 : x61_3 < (x5_2.length : Int)
               ·rw [if_pos c44] at H
                have c44b0 : decide (x61_3 < (x5_2.length : Int)) = true := decide_eq_true c44
                (try (have c44b0l := c44b0; rw [hl5_1] at c44b0l))
                (try (have c44b0l := c44b0; rw [hl5_2] at c44b0l))
                clear c44
                obtain ⟨bq45, hbq45⟩ : ∃ b_ : Bool, b_ = (rdOf false x5_2 x61_3) := ⟨_, rfl⟩
                replace H : (if bq45 = true then (if x12_3.length < 17592186044416 then (impl_SketchSolve.l2 k3 (x12_3 ++ [x61_3]) x5_2 (x5_2.length : Int) (wrap64 (x61_3 + 1))) else (none)) else (impl_SketchSolve.l2 k3 x12_3 x5_2 (x5_2.length : Int) (wrap64 (x61_3 + 1)))) = some (r1, r2, r3) := by rw [← hbq45] at H; exact H
                have Nbq45 := zA hbq45
                clear hbq45
                by_cases c46 : bq45 = true
                ·subst c46
                 have H1 : (if x12_3.length < 17592186044416 then (impl_SketchSolve.l2 k3 (x12_3 ++ [x61_3]) x5_2 (x5_2.length : Int) (wrap64 (x61_3 + 1))) else (none)) = some (r1, r2, r3) := by rw [if_pos rfl] at H; exact H
                 clear H
                 have H := H1
                 clear H1
                 by_cases c47 : x12_3.length < 17592186044416
                 ·rw [if_pos c47] at H
                  have LMc47 := zA c47
                  clear c47
                  obtain ⟨y207, hy207⟩ : ∃ y_ : List Int, y_ = (x12_3 ++ [x61_3]) := ⟨_, rfl⟩
                  replace H : (impl_SketchSolve.l2 k3 y207 x5_2 (x5_2.length : Int) (wrap64 (x61_3 + 1))) = some (r1, r2, r3) := by first | (rw [hy207]; with_reducible exact H) | (have H2_ := (Option.bind_some _ _).symm.trans H; rw [hy207]; with_reducible exact H2_) | (have H2_ := (Option.bind_some _ _).symm.trans H; with_reducible exact H2_) | with_reducible exact H | (rw [hy207]; exact H) | exact H
                  have Ny207 := zA hy207
                  clear hy207
                  have H' := zA H
                  clear H
                  have p206 : 0 ≤ (x61_3 : Int) := of_decide_eq_true (by first | (with_reducible assumption) | assumption)
                  have q206 : x61_3 < (x5_2.length : Int) := of_decide_eq_true (by first | (with_reducible assumption) | assumption)
                  obtain ⟨ad206, e206, hx206_0⟩ := Kd.at_bool (zK HO_59.out).2.2 x61_3 p206 q206
                  (try rw [← Nbq45.out] at hx206_0)
                  cases e206
                  replace p206 := eq_true p206
                  replace q206 := eq_true q206
                  go_wp2_with (first | ((with_reducible refine gate_builtin (b := .append) (xs := #[.tmp 67, .tmp 69]) rfl ?_); at_builtin; refine Kd.R_append (Kd.int .i64) (w0 := w) w.heap.size rfl (.tmp 67) (.tmp 69) 28 3 (.int .i64 0) 8 rfl Try.underlying28 info3 rfl (by decide) (by omega) u12 x12_3 x61_3 [.int .i64 x61_3] (fun _ => True) (fun _ => False) rfl rfl ?aP (fun _ hk => hk.elim) ?aF ?aO ?aB ?aS ?aL ?_; (case aP => exact rfl); (case aB => exact (bB_ HB)); (case aF => exact (fun _ _ => trivial)); (case aO => exact (bC_ HO_12)); (case aS => exact (zT (bB_ HB))); (case aL => have := LMc47.out; omega); intro v208 w48 ho hb hg hat; rw [← Ny207.out] at ho; have n0_ := zA (Kd.R_over' (bC_ HO_59) (Kd.R_typed (bC_ HO_12)) (by decide) hg); have n1_ := zA (blk_grown (g := gb190) (o := .cells #[.int .i64 a0_0, .slice A0_1 l0_1.length c0_1] 25 (0, 0)) (bA_ BK190) hg (Kd.R_ne HO_12.out BK190.out (by decide))); have n2_ := zA (hb); have n3_ := zA (ho); clear HO_59; clear BK190; clear HB; clear HO_12; have HO_59 := n0_; have BK190 := n1_; have HB := n2_; have HO209 := n3_; clear n0_ n1_ n2_ n3_; clear ho hb hg hat))
                  go_roundg k3
                  case measure => have := HK1.out; have := HK2.out; have := HK3.out; omega
                  case rel => exact ⟨(y207), (wrap64 (x61_3 + 1)), (by first | rfl | (simp; done) | (simp [*]; done)), H', ⟨by have := HK1.out; have := HK2.out; have := HK3.out; omega⟩, ⟨by (try simp only [hl5_1]); (try simp only [hl5_2]); (with_reducible repeat (first | apply zF | apply zE | apply zG)); exact HO209.out⟩, ⟨by (try simp only [hl5_1]); (try simp only [hl5_2]); (with_reducible repeat (first | apply zF | apply zE | apply zG)); exact HO_59.out⟩, ⟨by (try simp only [hl5_1]); (try simp only [hl5_2]); (with_reducible repeat (first | refine zM ?_ _ | refine zN ?_ | refine zO ?_ _)); exact BK190.out⟩, ⟨bB_ HB⟩⟩
                 ·rw [if_neg c47] at H
                  exact absurd H (by simp)
                ·replace c46 := Bool.eq_false_iff.mpr c46
                 subst c46
                 have H1 : (impl_SketchSolve.l2 k3 x12_3 x5_2 (x5_2.length : Int) (wrap64 (x61_3 + 1))) = some (r1, r2, r3) := by rw [if_neg (show ¬ (false = true) by decide)] at H; exact H
                 clear H
                 have H := H1
                 clear H1
                 have H' := zA H
                 clear H
                 have p206 : 0 ≤ (x61_3 : Int) := of_decide_eq_true (by first | (with_reducible assumption) | assumption)
                 have q206 : x61_3 < (x5_2.length : Int) := of_decide_eq_true (by first | (with_reducible assumption) | assumption)
                 obtain ⟨ad206, e206, hx206_0⟩ := Kd.at_bool (zK HO_59.out).2.2 x61_3 p206 q206
                 (try rw [← Nbq45.out] at hx206_0)
                 cases e206
                 replace p206 := eq_true p206
                 replace q206 := eq_true q206
                 go_wp2
                 go_roundg k3
                 case measure => have := HK1.out; have := HK2.out; have := HK3.out; omega
                 case rel => exact ⟨(x12_3), (wrap64 (x61_3 + 1)), (by first | rfl | (simp; done) | (simp [*]; done)), H', ⟨by have := HK1.out; have := HK2.out; have := HK3.out; omega⟩, ⟨by (try simp only [hl5_1]); (try simp only [hl5_2]); (with_reducible repeat (first | apply zF | apply zE | apply zG)); exact HO_12.out⟩, ⟨by (try simp only [hl5_1]); (try simp only [hl5_2]); (with_reducible repeat (first | apply zF | apply zE | apply zG)); exact HO_59.out⟩, ⟨by (try simp only [hl5_1]); (try simp only [hl5_2]); (with_reducible repeat (first | refine zM ?_ _ | refine zN ?_ | refine zO ?_ _)); exact BK190.out⟩, ⟨bB_ HB⟩⟩
               ·rw [if_neg c44] at H
                exact absurd H (by simp)
              ·rw [if_neg c43] at H
               exact absurd H (by simp)
             ·rw [if_neg c42] at H
              have c42b0 : decide (x61_3 < (x5_2.length : Int)) = false := decide_eq_false c42
              (try (have c42b0l := c42b0; rw [hl5_1] at c42b0l))
              (try (have c42b0l := c42b0; rw [hl5_2] at c42b0l))
              clear c42
              simp only [Option.some.injEq, Prod.mk.injEq] at H
              obtain ⟨rfl, rfl, rfl⟩ := H
              go_wp2
              go_ret3
              exact ⟨_, _, by first | rfl | (simp [errW_none, errW_some] <;> rfl) | (simp [*, errW_none, errW_some] <;> rfl), by first | exact Kd.R_nil _ _ _ _ _ | exact Kd.N_nil _ _ _ _ _ | exact Kd.V_nil _ _ _ _ _ | exact Kd.Q_nil _ _ _ _ _ | exact Kd.S_nil _ _ _ _ _, bC_ HO_12, bB_ HB⟩
   ·rw [if_neg c5] at H
    exact absurd H (by simp)
  ·rw [if_neg c4] at H
   exact absurd H (by simp)
 ·replace c3 := Bool.eq_false_iff.mpr c3
  subst c3
  have H1 : (some (([] : List (S48)), 1, ([] : List Int))) = some (r1, r2, r3) := by rw [if_neg (show ¬ (false = true) by decide)] at H; exact H
  clear H
  have H := H1
  clear H1
  simp only [Option.some.injEq, Prod.mk.injEq] at H
  obtain ⟨rfl, rfl, rfl⟩ := H
  go_enter Try.func9, Try.ntmps9
  go_wp2_with (first | ((with_reducible refine gate_dst (N := 1) rfl ?_); refine box_event ?hg (N := 1) ?hd (cs := #[.int .i64 a0_0, .slice A0_1 l0_1.length c0_1]) (t := 25) ?hr ?_; (case hd => rfl); (case hg => rfl); (case hr => first | (go_simp; done) | (go_simp; rfl)); intro gb190 hg w49 hbox hb; have n0_ := zA (below_step (bB_ HB) hb); have n1_ := zA (hbox); have n2_ := zA ((by rw [hg]; exact (zT (bB_ HB)) : w.heap.size ≤ gb190)); have n3_ := zA ((by rw [hg]; exact (zT (bB_ HB)) : w.heap.size ≤ gb190)); clear HB; have HB := n0_; have BK190 := n1_; have GW190 := n2_; have GE190 := n3_; clear n0_ n1_ n2_ n3_; clear hb hbox hg; have hcz50_0 : w49.cell? ⟨gb190, 0, none⟩ = some (.int .i64 a0_0) := (blk_cell BK190.out 0).trans rfl; have hcz50_1 : w49.cell? ⟨gb190, 1, none⟩ = some (.slice A0_1 l0_1.length c0_1) := (blk_cell BK190.out 1).trans rfl; have hfz50_0 := blk_frozen BK190.out 0; have hfz50_1 := blk_frozen BK190.out 1) | ((with_reducible refine gate_callee (f := 18) rfl ?_); refine goesL_ (some 16) rfl rfl Try.func18 (by kernel_rfl) rfl #[.agg #[.int .i64 a0_0, .slice A0_1 l0_1.length c0_1]] rfl (by (try simp only [List.map_toArray, List.map_cons, List.map_nil]); first | done | rfl | (simp only [List.length_drop, List.length_take]; rfl)) ?_; (with_reducible refine (impl_SketchOK.calls k a0_0 _ _ l0_1 false _ ?side1 ?side2 A2.out).mono ?_); (case side1 => repeat (first | exact (Kd.C_below HR0_1.out HB.out) | (with_reducible refine zI ?_ _) | (with_reducible refine zH ?_ _) | (with_reducible refine zJ ?_))); (case side2 => exact HC0_1.out); rintro e w51 ⟨rfl, hb⟩; refine ⟨_, rfl, ?_⟩; have n0_ := zA (zU (g := gb190) (o := .cells #[.int .i64 a0_0, .slice A0_1 l0_1.length c0_1] 25 (0, 0)) (bA_ BK190) hb); have n1_ := zA (below_step (bB_ HB) hb); clear BK190; clear HB; have BK190 := n0_; have HB := n1_; clear n0_ n1_; (try clear hb); (try clear hb2); (try clear hk); (try clear hi)))
  go_ret3
  exact ⟨_, _, by first | rfl | (simp [errW_none, errW_some] <;> rfl) | (simp [*, errW_none, errW_some] <;> rfl), by first | exact Kd.R_nil _ _ _ _ _ | exact Kd.N_nil _ _ _ _ _ | exact Kd.V_nil _ _ _ _ _ | exact Kd.Q_nil _ _ _ _ _ | exact Kd.S_nil _ _ _ _ _, by first | exact Kd.R_nil _ _ _ _ _ | exact Kd.N_nil _ _ _ _ _ | exact Kd.V_nil _ _ _ _ _ | exact Kd.Q_nil _ _ _ _ _ | exact Kd.S_nil _ _ _ _ _, bB_ HB⟩

end Go.Proofs.Ytnbkdfnlggmopaa.PFnExactSketchMove
