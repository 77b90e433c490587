/- Written for this claim by a program of this session: the functions that the law reaches, each with its contract. -/
import Derived.Test.YtgmbbcnfcddamaaPFnContourx0
import Derived.Test.YtgmbbcnfcddamaaPFnContourx2
import Derived.Test.YtgmbbcnfcddamaaPFnContourx7
import Derived.Test.YtgmbbcnfcddamaaPFnContourx8
namespace Go.Proofs.Ytgmbbcnfcddamaa.PFnContour
open Go.RowKit Go.Proofs.YtgmbbcnfcddamaaW.PrintWords Go.Proofs.YtgmbbcnfcddamaaW.PrintLast Go.Proofs.YtgmbbcnfcddamaaW.PrintMore
open Go.Proofs.YtgmbbcnfcddamaaW.PrintWords.Aside0 renaming mk → zA
open List renaming setIfInBounds_toArray → zB, set_cons_zero → zC, set_cons_succ → zD
open Go.Proofs.YtgmbbcnfcddamaaW.PrintWords.Kd renaming R_drewN → zE, R_alloc → zF, C_drewN → zH, C_alloc → zI, C_drew → zJ
open Go.Proofs.YtgmbbcnfcddamaaW.PrintWords renaming blk_drewN → zM, blk_drew → zN, blk_alloc → zO, pw_below_drewN → zP, below_drew1 → zQ, below_alloc → zR, below_set → zS, below_size → zT, blk_below → zU
attribute [local go_sem] i64_w max2_int min2_int max_two min_two max_three min_three max_four min_four
set_option linter.unusedVariables false
set_option linter.unusedSimpArgs false

def spec_l10Tool.f (a0 : Int) : Option (Bool) := if a0 ≥ 0 then (some (decide (a0 ≤ 3))) else (some false)
set_option maxHeartbeats 8000000 in
set_option maxRecDepth 100000 in
theorem spec_l10Tool.calls (a0 : Int) (r : Bool) (w : World) (h : spec_l10Tool.f a0 = some r) :
  Calls Try.prog 40 #[.int .i64 a0] w fun e w' => e = .returned (.bool r) ∧ Drawn0 w w' := by
 have H : (if a0 ≥ 0 then (some (decide (a0 ≤ 3))) else (some false)) = some r := h
 clear h
 by_cases c2 : a0 ≥ 0
 ·rw [if_pos c2] at H
  have c2b0 : decide (0 ≤ a0) = true := decide_eq_true c2
  clear c2
  obtain rfl := Option.some.inj H
  go_enter Try.func40, Try.ntmps40
  go_wp2
  go_ret
  exact ⟨by first | rfl | (simp; done) | (simp [*]; done), by repeat (first | exact Drawn0.refl _ | apply Drawn0.step)⟩
 ·rw [if_neg c2] at H
  have c2b0 : decide (0 ≤ a0) = false := decide_eq_false c2
  clear c2
  obtain rfl := Option.some.inj H
  go_enter Try.func40, Try.ntmps40
  go_wp2
  go_ret
  exact ⟨by first | rfl | (simp; done) | (simp [*]; done), by repeat (first | exact Drawn0.refl _ | apply Drawn0.step)⟩

mutual
def spec_l10Pair.j0 : Nat → Bool → Int → Int → List Int → Int → Int → List Int → Option (Bool)
 | 0, _, _, _, _, _, _, _ => none
 | k + 1, x34, x275000, x275001, x275002, x276000, x276001, x276002 => if x34 = true then (some false) else (spec_l10Pair.l0 k 0 x275000 x275001 x275002 x276000 x276001 x276002)
def spec_l10Pair.l0 : Nat → Int → Int → Int → List Int → Int → Int → List Int → Option (Bool)
 | 0, _, _, _, _, _, _, _ => none
 | k + 1, x7, x275000, x275001, x275002, x276000, x276001, x276002 => if x7 < (x276002.length : Int) then (if 0 ≤ x7 then (if x7 < (x275002.length : Int) then (if (rd x276002 x7) > (rd x275002 x7) then (some false) else (spec_l10Pair.l0 k (wrap64 (x7 + 1)) x275000 x275001 x275002 x276000 x276001 x276002)) else (none)) else (none)) else (some true)
end
def spec_l10Pair.f (k : Nat) (a0_0 : Int) (a0_1 : Int) (l0_2 : List Int) (a1_0 : Int) (a1_1 : Int) (l1_2 : List Int) (a2 : Int) : Option (Bool) := (spec_FieldOK.f k a0_0 a0_1 l0_2).bind fun t276 => (if t276 = true then ((spec_FieldOK.f k a1_0 a1_1 l1_2).bind fun t277 => (if t277 = true then (if a0_0 = a1_0 then (if a0_1 = a1_1 then ((spec_l10Tool.f a2).bind fun t278 => (spec_l10Pair.j0 k (!t278) a0_0 a0_1 l0_2 a1_0 a1_1 l1_2)) else (spec_l10Pair.j0 k true a0_0 a0_1 l0_2 a1_0 a1_1 l1_2)) else (spec_l10Pair.j0 k true a0_0 a0_1 l0_2 a1_0 a1_1 l1_2)) else (spec_l10Pair.j0 k true a0_0 a0_1 l0_2 a1_0 a1_1 l1_2))) else (spec_l10Pair.j0 k true a0_0 a0_1 l0_2 a1_0 a1_1 l1_2))
theorem spec_l10Pair.mono_l : ∀ k, (∀ y0 y1 y2 y3 y4 y5 y6, LeO (spec_l10Pair.j0 k y0 y1 y2 y3 y4 y5 y6) (spec_l10Pair.j0 (k + 1) y0 y1 y2 y3 y4 y5 y6)) ∧ (∀ y0 y1 y2 y3 y4 y5 y6, LeO (spec_l10Pair.l0 k y0 y1 y2 y3 y4 y5 y6) (spec_l10Pair.l0 (k + 1) y0 y1 y2 y3 y4 y5 y6))
 | 0 => ⟨fun _ _ _ _ _ _ _ r h => by simp [spec_l10Pair.j0] at h, fun _ _ _ _ _ _ _ r h => by simp [spec_l10Pair.l0] at h⟩
 | k + 1 => by
  obtain ⟨ih0, ih1⟩ := spec_l10Pair.mono_l k
  refine ⟨?_, ?_⟩
  ·intro y0 y1 y2 y3 y4 y5 y6
   unfold spec_l10Pair.j0
   repeat' first
   | (with_reducible exact ih0 _ _ _ _ _ _ _)
   | (with_reducible exact ih1 _ _ _ _ _ _ _)
   | (with_reducible exact spec_FieldOK.mono _ _ _ _)
   | (with_reducible exact LeO.refl _)
   | (with_reducible exact LeO.none _)
   | (with_reducible refine LeO.ite ?_ ?_)
   | (with_reducible refine LeO.bind ?_ (fun _ => ?_))
   | exact ih0 _ _ _ _ _ _ _
   | exact ih1 _ _ _ _ _ _ _
   | exact spec_FieldOK.mono _ _ _ _
   | exact LeO.none _
   | refine LeO.ite ?_ ?_
   | refine LeO.bind ?_ (fun _ => ?_)
  ·intro y0 y1 y2 y3 y4 y5 y6
   unfold spec_l10Pair.l0
   repeat' first
   | (with_reducible exact ih0 _ _ _ _ _ _ _)
   | (with_reducible exact ih1 _ _ _ _ _ _ _)
   | (with_reducible exact spec_FieldOK.mono _ _ _ _)
   | (with_reducible exact LeO.refl _)
   | (with_reducible exact LeO.none _)
   | (with_reducible refine LeO.ite ?_ ?_)
   | (with_reducible refine LeO.bind ?_ (fun _ => ?_))
   | exact ih0 _ _ _ _ _ _ _
   | exact ih1 _ _ _ _ _ _ _
   | exact spec_FieldOK.mono _ _ _ _
   | exact LeO.none _
   | refine LeO.ite ?_ ?_
   | refine LeO.bind ?_ (fun _ => ?_)
theorem spec_l10Pair.mono : ∀ a0 a1 a2 a3 a4 a5 a6 k, LeO (spec_l10Pair.f k a0 a1 a2 a3 a4 a5 a6) (spec_l10Pair.f (k + 1) a0 a1 a2 a3 a4 a5 a6) := by
 intro a0 a1 a2 a3 a4 a5 a6 k
 obtain ⟨ih0, ih1⟩ := spec_l10Pair.mono_l k
 unfold spec_l10Pair.f
 repeat' first
   | (with_reducible exact ih0 _ _ _ _ _ _ _)
   | (with_reducible exact ih1 _ _ _ _ _ _ _)
   | (with_reducible exact spec_FieldOK.mono _ _ _ _)
   | (with_reducible exact LeO.refl _)
   | (with_reducible exact LeO.none _)
   | (with_reducible refine LeO.ite ?_ ?_)
   | (with_reducible refine LeO.bind ?_ (fun _ => ?_))
   | exact ih0 _ _ _ _ _ _ _
   | exact ih1 _ _ _ _ _ _ _
   | exact spec_FieldOK.mono _ _ _ _
   | exact LeO.none _
   | refine LeO.ite ?_ ?_
   | refine LeO.bind ?_ (fun _ => ?_)
set_option maxHeartbeats 8000000 in
set_option maxRecDepth 100000 in
theorem spec_l10Pair.calls (k : Nat) (a0_0 : Int) (a0_1 : Int) (A0_2 : Option Addr) (c0_2 : Nat) (l0_2 : List Int) (a1_0 : Int) (a1_1 : Int) (A1_2 : Option Addr) (c1_2 : Nat) (l1_2 : List Int) (a2 : Int) (r : Bool) (w : World) (hr0_2 : Kd.C (Kd.int .i64) w A0_2 l0_2.length l0_2) (hc0_2 : l0_2.length ≤ c0_2) (hr1_2 : Kd.C (Kd.int .i64) w A1_2 l1_2.length l1_2) (hc1_2 : l1_2.length ≤ c1_2) (h : spec_l10Pair.f k a0_0 a0_1 l0_2 a1_0 a1_1 l1_2 a2 = some r) :
  Calls Try.prog 57 #[.agg #[.int .i64 a0_0, .int .i64 a0_1, .slice A0_2 l0_2.length c0_2], .agg #[.int .i64 a1_0, .int .i64 a1_1, .slice A1_2 l1_2.length c1_2], .int .i64 a2] w fun e w' => e = .returned (.bool r) ∧ Below w.heap.size w w' := by
 have hu26 := Try.underlying26
 have HR0_2 := zA hr0_2
 have HC0_2 := zA hc0_2
 clear hr0_2 hc0_2
 have HR1_2 := zA hr1_2
 have HC1_2 := zA hc1_2
 clear hr1_2 hc1_2
 have HB := zA (Below.refl w.heap.size w)
 have H : ((spec_FieldOK.f k a0_0 a0_1 l0_2).bind fun t276 => (if t276 = true then ((spec_FieldOK.f k a1_0 a1_1 l1_2).bind fun t277 => (if t277 = true then (if a0_0 = a1_0 then (if a0_1 = a1_1 then ((spec_l10Tool.f a2).bind fun t278 => (spec_l10Pair.j0 k (!t278) a0_0 a0_1 l0_2 a1_0 a1_1 l1_2)) else (spec_l10Pair.j0 k true a0_0 a0_1 l0_2 a1_0 a1_1 l1_2)) else (spec_l10Pair.j0 k true a0_0 a0_1 l0_2 a1_0 a1_1 l1_2)) else (spec_l10Pair.j0 k true a0_0 a0_1 l0_2 a1_0 a1_1 l1_2))) else (spec_l10Pair.j0 k true a0_0 a0_1 l0_2 a1_0 a1_1 l1_2))) = some r := h
 clear h
 have HC4 := zA H
 clear H
 go_enter Try.func57, Try.ntmps57
 go_upto_region 1 with (first | ((with_reducible refine gate_dst (N := 3) rfl ?_); refine box_event ?hg (N := 3) ?hd (cs := #[.int .i64 a0_0, .int .i64 a0_1, .slice A0_2 l0_2.length c0_2]) (t := 26) ?hr ?_; (case hd => rfl); (case hg => rfl); (case hr => first | (go_simp; done) | (go_simp; rfl)); intro gb274 hg w5 hbox hb; have n0_ := zA (below_step (bB_ HB) hb); have n1_ := zA (hbox); have n2_ := zA ((by rw [hg]; exact (zT (bB_ HB)) : w.heap.size ≤ gb274)); have n3_ := zA ((by rw [hg]; exact (zT (bB_ HB)) : w.heap.size ≤ gb274)); clear HB; have HB := n0_; have BK274 := n1_; have GW274 := n2_; have GE274 := n3_; clear n0_ n1_ n2_ n3_; clear hb hbox hg) | ((with_reducible refine gate_dst (N := 4) rfl ?_); refine box_event ?hg (N := 4) ?hd (cs := #[.int .i64 a1_0, .int .i64 a1_1, .slice A1_2 l1_2.length c1_2]) (t := 26) ?hr ?_; (case hd => rfl); (case hg => rfl); (case hr => first | (go_simp; done) | (go_simp; rfl)); intro gb275 hg w6 hbox hb; have n0_ := zA (zU (g := gb274) (o := .cells #[.int .i64 a0_0, .int .i64 a0_1, .slice A0_2 l0_2.length c0_2] 26 (0, 0)) (bA_ BK274) hb); have n1_ := zA (below_step (bB_ HB) hb); have n2_ := zA (hbox); have n3_ := zA ((by rw [hg]; exact (zT (bB_ HB)) : w.heap.size ≤ gb275)); have n4_ := zA ((by rw [hg]; exact (zT (bB_ HB)) : w.heap.size ≤ gb275)); have n5_ := zA ((by rw [hg]; exact Nat.ne_of_lt (blk_lt (g := gb274) (o := .cells #[.int .i64 a0_0, .int .i64 a0_1, .slice A0_2 l0_2.length c0_2] 26 (0, 0)) (bA_ BK274)) : gb274 ≠ gb275)); have n6_ := zA ((by rw [hg]; exact Nat.ne_of_gt (blk_lt (g := gb274) (o := .cells #[.int .i64 a0_0, .int .i64 a0_1, .slice A0_2 l0_2.length c0_2] 26 (0, 0)) (bA_ BK274)) : gb275 ≠ gb274)); clear BK274; clear HB; have BK274 := n0_; have HB := n1_; have BK275 := n2_; have GW275 := n3_; have GE275 := n4_; have NB274_275 := n5_; have NB275_274 := n6_; clear n0_ n1_ n2_ n3_ n4_ n5_ n6_; clear hb hbox hg))
 repeat (go_quiet (first | ((with_reducible refine gate_dst (N := 3) rfl ?_); refine box_event ?hg (N := 3) ?hd (cs := #[.int .i64 a0_0, .int .i64 a0_1, .slice A0_2 l0_2.length c0_2]) (t := 26) ?hr ?_; (case hd => rfl); (case hg => rfl); (case hr => first | (go_simp; done) | (go_simp; rfl)); intro gb274 hg w5 hbox hb; have n0_ := zA (below_step (bB_ HB) hb); have n1_ := zA (hbox); have n2_ := zA ((by rw [hg]; exact (zT (bB_ HB)) : w.heap.size ≤ gb274)); have n3_ := zA ((by rw [hg]; exact (zT (bB_ HB)) : w.heap.size ≤ gb274)); clear HB; have HB := n0_; have BK274 := n1_; have GW274 := n2_; have GE274 := n3_; clear n0_ n1_ n2_ n3_; clear hb hbox hg) | ((with_reducible refine gate_dst (N := 4) rfl ?_); refine box_event ?hg (N := 4) ?hd (cs := #[.int .i64 a1_0, .int .i64 a1_1, .slice A1_2 l1_2.length c1_2]) (t := 26) ?hr ?_; (case hd => rfl); (case hg => rfl); (case hr => first | (go_simp; done) | (go_simp; rfl)); intro gb275 hg w6 hbox hb; have n0_ := zA (zU (g := gb274) (o := .cells #[.int .i64 a0_0, .int .i64 a0_1, .slice A0_2 l0_2.length c0_2] 26 (0, 0)) (bA_ BK274) hb); have n1_ := zA (below_step (bB_ HB) hb); have n2_ := zA (hbox); have n3_ := zA ((by rw [hg]; exact (zT (bB_ HB)) : w.heap.size ≤ gb275)); have n4_ := zA ((by rw [hg]; exact (zT (bB_ HB)) : w.heap.size ≤ gb275)); have n5_ := zA ((by rw [hg]; exact Nat.ne_of_lt (blk_lt (g := gb274) (o := .cells #[.int .i64 a0_0, .int .i64 a0_1, .slice A0_2 l0_2.length c0_2] 26 (0, 0)) (bA_ BK274)) : gb274 ≠ gb275)); have n6_ := zA ((by rw [hg]; exact Nat.ne_of_gt (blk_lt (g := gb274) (o := .cells #[.int .i64 a0_0, .int .i64 a0_1, .slice A0_2 l0_2.length c0_2] 26 (0, 0)) (bA_ BK274)) : gb275 ≠ gb274)); clear BK274; clear HB; have BK274 := n0_; have HB := n1_; have BK275 := n2_; have GW275 := n3_; have GE275 := n4_; have NB274_275 := n5_; have NB275_274 := n6_; clear n0_ n1_ n2_ n3_ n4_ n5_ n6_; clear hb hbox hg)); go_upto_region 1 with (first | ((with_reducible refine gate_dst (N := 3) rfl ?_); refine box_event ?hg (N := 3) ?hd (cs := #[.int .i64 a0_0, .int .i64 a0_1, .slice A0_2 l0_2.length c0_2]) (t := 26) ?hr ?_; (case hd => rfl); (case hg => rfl); (case hr => first | (go_simp; done) | (go_simp; rfl)); intro gb274 hg w5 hbox hb; have n0_ := zA (below_step (bB_ HB) hb); have n1_ := zA (hbox); have n2_ := zA ((by rw [hg]; exact (zT (bB_ HB)) : w.heap.size ≤ gb274)); have n3_ := zA ((by rw [hg]; exact (zT (bB_ HB)) : w.heap.size ≤ gb274)); clear HB; have HB := n0_; have BK274 := n1_; have GW274 := n2_; have GE274 := n3_; clear n0_ n1_ n2_ n3_; clear hb hbox hg) | ((with_reducible refine gate_dst (N := 4) rfl ?_); refine box_event ?hg (N := 4) ?hd (cs := #[.int .i64 a1_0, .int .i64 a1_1, .slice A1_2 l1_2.length c1_2]) (t := 26) ?hr ?_; (case hd => rfl); (case hg => rfl); (case hr => first | (go_simp; done) | (go_simp; rfl)); intro gb275 hg w6 hbox hb; have n0_ := zA (zU (g := gb274) (o := .cells #[.int .i64 a0_0, .int .i64 a0_1, .slice A0_2 l0_2.length c0_2] 26 (0, 0)) (bA_ BK274) hb); have n1_ := zA (below_step (bB_ HB) hb); have n2_ := zA (hbox); have n3_ := zA ((by rw [hg]; exact (zT (bB_ HB)) : w.heap.size ≤ gb275)); have n4_ := zA ((by rw [hg]; exact (zT (bB_ HB)) : w.heap.size ≤ gb275)); have n5_ := zA ((by rw [hg]; exact Nat.ne_of_lt (blk_lt (g := gb274) (o := .cells #[.int .i64 a0_0, .int .i64 a0_1, .slice A0_2 l0_2.length c0_2] 26 (0, 0)) (bA_ BK274)) : gb274 ≠ gb275)); have n6_ := zA ((by rw [hg]; exact Nat.ne_of_gt (blk_lt (g := gb274) (o := .cells #[.int .i64 a0_0, .int .i64 a0_1, .slice A0_2 l0_2.length c0_2] 26 (0, 0)) (bA_ BK274)) : gb275 ≠ gb274)); clear BK274; clear HB; have BK274 := n0_; have HB := n1_; have BK275 := n2_; have GW275 := n3_; have GE275 := n4_; have NB274_275 := n5_; have NB275_274 := n6_; clear n0_ n1_ n2_ n3_ n4_ n5_ n6_; clear hb hbox hg)))
 (try simp only [Act.put, zB, zC, zD])
 go_cut [34] (fun v34 wc => ∃ (kq : Nat) (x34_3 : Bool), v34 = .bool x34_3 ∧ Aside0 (spec_l10Pair.j0 kq x34_3 a0_0 a0_1 l0_2 a1_0 a1_1 l1_2 = some r) ∧ Aside0 (kq ≤ k) ∧ Aside0 (wc.heap[gb274]? = some (.cells #[.int .i64 a0_0, .int .i64 a0_1, (.slice A0_2 l0_2.length c0_2)] 26 (0, 0))) ∧ Aside0 (wc.heap[gb275]? = some (.cells #[.int .i64 a1_0, .int .i64 a1_1, (.slice A1_2 l1_2.length c1_2)] 26 (0, 0))) ∧ Aside0 (Below w.heap.size w wc))
 case first =>
  have H := HC4.out
  clear HC4
  replace H := Option.bind_eq_some_iff.mp H
  obtain ⟨t276, A70, H⟩ := H
  replace H : (if t276 = true then ((spec_FieldOK.f k a1_0 a1_1 l1_2).bind fun t277 => (if t277 = true then (if a0_0 = a1_0 then (if a0_1 = a1_1 then ((spec_l10Tool.f a2).bind fun t278 => (spec_l10Pair.j0 k (!t278) a0_0 a0_1 l0_2 a1_0 a1_1 l1_2)) else (spec_l10Pair.j0 k true a0_0 a0_1 l0_2 a1_0 a1_1 l1_2)) else (spec_l10Pair.j0 k true a0_0 a0_1 l0_2 a1_0 a1_1 l1_2)) else (spec_l10Pair.j0 k true a0_0 a0_1 l0_2 a1_0 a1_1 l1_2))) else (spec_l10Pair.j0 k true a0_0 a0_1 l0_2 a1_0 a1_1 l1_2)) = some r := H
  have A7 := zA A70
  clear A70
  by_cases c8 : t276 = true
  ·subst c8
   have H1 : ((spec_FieldOK.f k a1_0 a1_1 l1_2).bind fun t277 => (if t277 = true then (if a0_0 = a1_0 then (if a0_1 = a1_1 then ((spec_l10Tool.f a2).bind fun t278 => (spec_l10Pair.j0 k (!t278) a0_0 a0_1 l0_2 a1_0 a1_1 l1_2)) else (spec_l10Pair.j0 k true a0_0 a0_1 l0_2 a1_0 a1_1 l1_2)) else (spec_l10Pair.j0 k true a0_0 a0_1 l0_2 a1_0 a1_1 l1_2)) else (spec_l10Pair.j0 k true a0_0 a0_1 l0_2 a1_0 a1_1 l1_2))) = some r := by rw [if_pos rfl] at H; exact H
   clear H
   have H := H1
   clear H1
   replace H := Option.bind_eq_some_iff.mp H
   obtain ⟨t277, A90, H⟩ := H
   replace H : (if t277 = true then (if a0_0 = a1_0 then (if a0_1 = a1_1 then ((spec_l10Tool.f a2).bind fun t278 => (spec_l10Pair.j0 k (!t278) a0_0 a0_1 l0_2 a1_0 a1_1 l1_2)) else (spec_l10Pair.j0 k true a0_0 a0_1 l0_2 a1_0 a1_1 l1_2)) else (spec_l10Pair.j0 k true a0_0 a0_1 l0_2 a1_0 a1_1 l1_2)) else (spec_l10Pair.j0 k true a0_0 a0_1 l0_2 a1_0 a1_1 l1_2)) = some r := H
   have A9 := zA A90
   clear A90
   by_cases c10 : t277 = true
   ·subst c10
    have H1 : (if a0_0 = a1_0 then (if a0_1 = a1_1 then ((spec_l10Tool.f a2).bind fun t278 => (spec_l10Pair.j0 k (!t278) a0_0 a0_1 l0_2 a1_0 a1_1 l1_2)) else (spec_l10Pair.j0 k true a0_0 a0_1 l0_2 a1_0 a1_1 l1_2)) else (spec_l10Pair.j0 k true a0_0 a0_1 l0_2 a1_0 a1_1 l1_2)) = some r := by rw [if_pos rfl] at H; exact H
    clear H
    have H := H1
    clear H1
    by_cases c11 : a0_0 = a1_0
    ·rw [if_pos c11] at H
     have c11b0 : (a0_0 == a1_0) = true := beq_iff_eq.mpr c11
     have c11b1 : (a0_0 != a1_0) = false := bne_eq_false_iff_eq.mpr c11
     clear c11
     (first | rw [c11b0] | (simp only [i64_w, i32_w]; rw [c11b0]) | skip)
     by_cases c12 : a0_1 = a1_1
     ·rw [if_pos c12] at H
      have c12b0 : (a0_1 == a1_1) = true := beq_iff_eq.mpr c12
      have c12b1 : (a0_1 != a1_1) = false := bne_eq_false_iff_eq.mpr c12
      clear c12
      replace H := Option.bind_eq_some_iff.mp H
      obtain ⟨t278, A130, H⟩ := H
      replace H : (spec_l10Pair.j0 k (!t278) a0_0 a0_1 l0_2 a1_0 a1_1 l1_2) = some r := H
      have A13 := zA A130
      clear A130
      have H' := zA H
      clear H
      have hnb14 := NB274_275.out
      have hnc14 := NB275_274.out
      have hcz15_0 : w6.cell? ⟨gb274, 0, none⟩ = some (.int .i64 a0_0) := (blk_cell BK274.out 0).trans rfl
      have hcz15_1 : w6.cell? ⟨gb274, 1, none⟩ = some (.int .i64 a0_1) := (blk_cell BK274.out 1).trans rfl
      have hcz15_2 : w6.cell? ⟨gb274, 2, none⟩ = some (.slice A0_2 l0_2.length c0_2) := (blk_cell BK274.out 2).trans rfl
      have hfz15_0 := blk_frozen BK274.out 0
      have hfz15_1 := blk_frozen BK274.out 1
      have hfz15_2 := blk_frozen BK274.out 2
      go_wp2_with (first | (go_at_call 39; (with_reducible refine (spec_FieldOK.calls k a0_0 a0_1 _ _ l0_2 true _ ?side1 ?side2 A7.out).mono ?_); (case side1 => repeat (first | exact (Kd.C_below HR0_2.out HB.out) | (with_reducible refine zI ?_ _) | (with_reducible refine zH ?_ _) | (with_reducible refine zJ ?_))); (case side2 => exact HC0_2.out); rintro e w16 ⟨rfl, hb⟩; have n0_ := zA (zU (g := gb274) (o := .cells #[.int .i64 a0_0, .int .i64 a0_1, .slice A0_2 l0_2.length c0_2] 26 (0, 0)) (bA_ BK274) hb); have n1_ := zA (zU (g := gb275) (o := .cells #[.int .i64 a1_0, .int .i64 a1_1, .slice A1_2 l1_2.length c1_2] 26 (0, 0)) (bA_ BK275) hb); have n2_ := zA (below_step (bB_ HB) hb); clear BK274; clear BK275; clear HB; have BK274 := n0_; have BK275 := n1_; have HB := n2_; clear n0_ n1_ n2_; (try clear hb); (try clear hb2); (try clear hk); (try clear hi); have hcz17_0 : w16.cell? ⟨gb275, 0, none⟩ = some (.int .i64 a1_0) := (blk_cell BK275.out 0).trans rfl; have hcz17_1 : w16.cell? ⟨gb275, 1, none⟩ = some (.int .i64 a1_1) := (blk_cell BK275.out 1).trans rfl; have hcz17_2 : w16.cell? ⟨gb275, 2, none⟩ = some (.slice A1_2 l1_2.length c1_2) := (blk_cell BK275.out 2).trans rfl; have hfz17_0 := blk_frozen BK275.out 0; have hfz17_1 := blk_frozen BK275.out 1; have hfz17_2 := blk_frozen BK275.out 2) | (go_at_call 39; (with_reducible refine (spec_FieldOK.calls k a1_0 a1_1 _ _ l1_2 true _ ?side1 ?side2 A9.out).mono ?_); (case side1 => repeat (first | exact (Kd.C_below HR1_2.out HB.out) | (with_reducible refine zI ?_ _) | (with_reducible refine zH ?_ _) | (with_reducible refine zJ ?_))); (case side2 => exact HC1_2.out); rintro e w18 ⟨rfl, hb⟩; have n0_ := zA (zU (g := gb274) (o := .cells #[.int .i64 a0_0, .int .i64 a0_1, .slice A0_2 l0_2.length c0_2] 26 (0, 0)) (bA_ BK274) hb); have n1_ := zA (zU (g := gb275) (o := .cells #[.int .i64 a1_0, .int .i64 a1_1, .slice A1_2 l1_2.length c1_2] 26 (0, 0)) (bA_ BK275) hb); have n2_ := zA (below_step (bB_ HB) hb); clear BK274; clear BK275; clear HB; have BK274 := n0_; have BK275 := n1_; have HB := n2_; clear n0_ n1_ n2_; (try clear hb); (try clear hb2); (try clear hk); (try clear hi); have hcz19_0 : w18.cell? ⟨gb274, 0, none⟩ = some (.int .i64 a0_0) := (blk_cell BK274.out 0).trans rfl; have hcz19_1 : w18.cell? ⟨gb274, 1, none⟩ = some (.int .i64 a0_1) := (blk_cell BK274.out 1).trans rfl; have hcz19_2 : w18.cell? ⟨gb274, 2, none⟩ = some (.slice A0_2 l0_2.length c0_2) := (blk_cell BK274.out 2).trans rfl; have hfz19_0 := blk_frozen BK274.out 0; have hfz19_1 := blk_frozen BK274.out 1; have hfz19_2 := blk_frozen BK274.out 2; have hcz20_0 : w18.cell? ⟨gb275, 0, none⟩ = some (.int .i64 a1_0) := (blk_cell BK275.out 0).trans rfl; have hcz20_1 : w18.cell? ⟨gb275, 1, none⟩ = some (.int .i64 a1_1) := (blk_cell BK275.out 1).trans rfl; have hcz20_2 : w18.cell? ⟨gb275, 2, none⟩ = some (.slice A1_2 l1_2.length c1_2) := (blk_cell BK275.out 2).trans rfl; have hfz20_0 := blk_frozen BK275.out 0; have hfz20_1 := blk_frozen BK275.out 1; have hfz20_2 := blk_frozen BK275.out 2) | (go_at_call 40; (with_reducible refine (spec_l10Tool.calls a2 t278 _ A13.out).mono ?_); rintro e w' ⟨rfl, ⟨nd, rfl⟩⟩; (try first | exact ⟨rfl, _, World.drewN_drewN _ _ _⟩ | exact ⟨rfl, _, Eq.trans (World.drewN_drewN _ _ _) (congrArg (World.drewN _) (Nat.add_assoc _ _ _))⟩)))
      repeat (go_quiet (first | (go_at_call 39; (with_reducible refine (spec_FieldOK.calls k a0_0 a0_1 _ _ l0_2 true _ ?side1 ?side2 A7.out).mono ?_); (case side1 => repeat (first | exact (Kd.C_below HR0_2.out HB.out) | (with_reducible refine zI ?_ _) | (with_reducible refine zH ?_ _) | (with_reducible refine zJ ?_))); (case side2 => exact HC0_2.out); rintro e w16 ⟨rfl, hb⟩; have n0_ := zA (zU (g := gb274) (o := .cells #[.int .i64 a0_0, .int .i64 a0_1, .slice A0_2 l0_2.length c0_2] 26 (0, 0)) (bA_ BK274) hb); have n1_ := zA (zU (g := gb275) (o := .cells #[.int .i64 a1_0, .int .i64 a1_1, .slice A1_2 l1_2.length c1_2] 26 (0, 0)) (bA_ BK275) hb); have n2_ := zA (below_step (bB_ HB) hb); clear BK274; clear BK275; clear HB; have BK274 := n0_; have BK275 := n1_; have HB := n2_; clear n0_ n1_ n2_; (try clear hb); (try clear hb2); (try clear hk); (try clear hi); have hcz17_0 : w16.cell? ⟨gb275, 0, none⟩ = some (.int .i64 a1_0) := (blk_cell BK275.out 0).trans rfl; have hcz17_1 : w16.cell? ⟨gb275, 1, none⟩ = some (.int .i64 a1_1) := (blk_cell BK275.out 1).trans rfl; have hcz17_2 : w16.cell? ⟨gb275, 2, none⟩ = some (.slice A1_2 l1_2.length c1_2) := (blk_cell BK275.out 2).trans rfl; have hfz17_0 := blk_frozen BK275.out 0; have hfz17_1 := blk_frozen BK275.out 1; have hfz17_2 := blk_frozen BK275.out 2) | (go_at_call 39; (with_reducible refine (spec_FieldOK.calls k a1_0 a1_1 _ _ l1_2 true _ ?side1 ?side2 A9.out).mono ?_); (case side1 => repeat (first | exact (Kd.C_below HR1_2.out HB.out) | (with_reducible refine zI ?_ _) | (with_reducible refine zH ?_ _) | (with_reducible refine zJ ?_))); (case side2 => exact HC1_2.out); rintro e w18 ⟨rfl, hb⟩; have n0_ := zA (zU (g := gb274) (o := .cells #[.int .i64 a0_0, .int .i64 a0_1, .slice A0_2 l0_2.length c0_2] 26 (0, 0)) (bA_ BK274) hb); have n1_ := zA (zU (g := gb275) (o := .cells #[.int .i64 a1_0, .int .i64 a1_1, .slice A1_2 l1_2.length c1_2] 26 (0, 0)) (bA_ BK275) hb); have n2_ := zA (below_step (bB_ HB) hb); clear BK274; clear BK275; clear HB; have BK274 := n0_; have BK275 := n1_; have HB := n2_; clear n0_ n1_ n2_; (try clear hb); (try clear hb2); (try clear hk); (try clear hi); have hcz19_0 : w18.cell? ⟨gb274, 0, none⟩ = some (.int .i64 a0_0) := (blk_cell BK274.out 0).trans rfl; have hcz19_1 : w18.cell? ⟨gb274, 1, none⟩ = some (.int .i64 a0_1) := (blk_cell BK274.out 1).trans rfl; have hcz19_2 : w18.cell? ⟨gb274, 2, none⟩ = some (.slice A0_2 l0_2.length c0_2) := (blk_cell BK274.out 2).trans rfl; have hfz19_0 := blk_frozen BK274.out 0; have hfz19_1 := blk_frozen BK274.out 1; have hfz19_2 := blk_frozen BK274.out 2; have hcz20_0 : w18.cell? ⟨gb275, 0, none⟩ = some (.int .i64 a1_0) := (blk_cell BK275.out 0).trans rfl; have hcz20_1 : w18.cell? ⟨gb275, 1, none⟩ = some (.int .i64 a1_1) := (blk_cell BK275.out 1).trans rfl; have hcz20_2 : w18.cell? ⟨gb275, 2, none⟩ = some (.slice A1_2 l1_2.length c1_2) := (blk_cell BK275.out 2).trans rfl; have hfz20_0 := blk_frozen BK275.out 0; have hfz20_1 := blk_frozen BK275.out 1; have hfz20_2 := blk_frozen BK275.out 2) | (go_at_call 40; (with_reducible refine (spec_l10Tool.calls a2 t278 _ A13.out).mono ?_); rintro e w' ⟨rfl, ⟨nd, rfl⟩⟩; (try first | exact ⟨rfl, _, World.drewN_drewN _ _ _⟩ | exact ⟨rfl, _, Eq.trans (World.drewN_drewN _ _ _) (congrArg (World.drewN _) (Nat.add_assoc _ _ _))⟩))); try go_wp2_with (first | (go_at_call 39; (with_reducible refine (spec_FieldOK.calls k a0_0 a0_1 _ _ l0_2 true _ ?side1 ?side2 A7.out).mono ?_); (case side1 => repeat (first | exact (Kd.C_below HR0_2.out HB.out) | (with_reducible refine zI ?_ _) | (with_reducible refine zH ?_ _) | (with_reducible refine zJ ?_))); (case side2 => exact HC0_2.out); rintro e w16 ⟨rfl, hb⟩; have n0_ := zA (zU (g := gb274) (o := .cells #[.int .i64 a0_0, .int .i64 a0_1, .slice A0_2 l0_2.length c0_2] 26 (0, 0)) (bA_ BK274) hb); have n1_ := zA (zU (g := gb275) (o := .cells #[.int .i64 a1_0, .int .i64 a1_1, .slice A1_2 l1_2.length c1_2] 26 (0, 0)) (bA_ BK275) hb); have n2_ := zA (below_step (bB_ HB) hb); clear BK274; clear BK275; clear HB; have BK274 := n0_; have BK275 := n1_; have HB := n2_; clear n0_ n1_ n2_; (try clear hb); (try clear hb2); (try clear hk); (try clear hi); have hcz17_0 : w16.cell? ⟨gb275, 0, none⟩ = some (.int .i64 a1_0) := (blk_cell BK275.out 0).trans rfl; have hcz17_1 : w16.cell? ⟨gb275, 1, none⟩ = some (.int .i64 a1_1) := (blk_cell BK275.out 1).trans rfl; have hcz17_2 : w16.cell? ⟨gb275, 2, none⟩ = some (.slice A1_2 l1_2.length c1_2) := (blk_cell BK275.out 2).trans rfl; have hfz17_0 := blk_frozen BK275.out 0; have hfz17_1 := blk_frozen BK275.out 1; have hfz17_2 := blk_frozen BK275.out 2) | (go_at_call 39; (with_reducible refine (spec_FieldOK.calls k a1_0 a1_1 _ _ l1_2 true _ ?side1 ?side2 A9.out).mono ?_); (case side1 => repeat (first | exact (Kd.C_below HR1_2.out HB.out) | (with_reducible refine zI ?_ _) | (with_reducible refine zH ?_ _) | (with_reducible refine zJ ?_))); (case side2 => exact HC1_2.out); rintro e w18 ⟨rfl, hb⟩; have n0_ := zA (zU (g := gb274) (o := .cells #[.int .i64 a0_0, .int .i64 a0_1, .slice A0_2 l0_2.length c0_2] 26 (0, 0)) (bA_ BK274) hb); have n1_ := zA (zU (g := gb275) (o := .cells #[.int .i64 a1_0, .int .i64 a1_1, .slice A1_2 l1_2.length c1_2] 26 (0, 0)) (bA_ BK275) hb); have n2_ := zA (below_step (bB_ HB) hb); clear BK274; clear BK275; clear HB; have BK274 := n0_; have BK275 := n1_; have HB := n2_; clear n0_ n1_ n2_; (try clear hb); (try clear hb2); (try clear hk); (try clear hi); have hcz19_0 : w18.cell? ⟨gb274, 0, none⟩ = some (.int .i64 a0_0) := (blk_cell BK274.out 0).trans rfl; have hcz19_1 : w18.cell? ⟨gb274, 1, none⟩ = some (.int .i64 a0_1) := (blk_cell BK274.out 1).trans rfl; have hcz19_2 : w18.cell? ⟨gb274, 2, none⟩ = some (.slice A0_2 l0_2.length c0_2) := (blk_cell BK274.out 2).trans rfl; have hfz19_0 := blk_frozen BK274.out 0; have hfz19_1 := blk_frozen BK274.out 1; have hfz19_2 := blk_frozen BK274.out 2; have hcz20_0 : w18.cell? ⟨gb275, 0, none⟩ = some (.int .i64 a1_0) := (blk_cell BK275.out 0).trans rfl; have hcz20_1 : w18.cell? ⟨gb275, 1, none⟩ = some (.int .i64 a1_1) := (blk_cell BK275.out 1).trans rfl; have hcz20_2 : w18.cell? ⟨gb275, 2, none⟩ = some (.slice A1_2 l1_2.length c1_2) := (blk_cell BK275.out 2).trans rfl; have hfz20_0 := blk_frozen BK275.out 0; have hfz20_1 := blk_frozen BK275.out 1; have hfz20_2 := blk_frozen BK275.out 2) | (go_at_call 40; (with_reducible refine (spec_l10Tool.calls a2 t278 _ A13.out).mono ?_); rintro e w' ⟨rfl, ⟨nd, rfl⟩⟩; (try first | exact ⟨rfl, _, World.drewN_drewN _ _ _⟩ | exact ⟨rfl, _, Eq.trans (World.drewN_drewN _ _ _) (congrArg (World.drewN _) (Nat.add_assoc _ _ _))⟩))))
      go_meet
      case rel => exact ⟨_, (!t278), (by first | rfl | (simp; done) | (simp [*]; done)), H', ⟨by first | omega | exact Nat.le_refl _⟩, ⟨bA_ BK274⟩, ⟨bA_ BK275⟩, ⟨bB_ HB⟩⟩
     ·rw [if_neg c12] at H
      have c12b0 : (a0_1 == a1_1) = false := beq_eq_false_iff_ne.mpr c12
      have c12b1 : (a0_1 != a1_1) = true := bne_iff_ne.mpr c12
      have H' := zA H
      clear H
      have hnb21 := NB274_275.out
      have hnc21 := NB275_274.out
      have hcz22_0 : w6.cell? ⟨gb274, 0, none⟩ = some (.int .i64 a0_0) := (blk_cell BK274.out 0).trans rfl
      have hcz22_1 : w6.cell? ⟨gb274, 1, none⟩ = some (.int .i64 a0_1) := (blk_cell BK274.out 1).trans rfl
      have hcz22_2 : w6.cell? ⟨gb274, 2, none⟩ = some (.slice A0_2 l0_2.length c0_2) := (blk_cell BK274.out 2).trans rfl
      have hfz22_0 := blk_frozen BK274.out 0
      have hfz22_1 := blk_frozen BK274.out 1
      have hfz22_2 := blk_frozen BK274.out 2
      go_wp2_with (first | (go_at_call 39; (with_reducible refine (spec_FieldOK.calls k a0_0 a0_1 _ _ l0_2 true _ ?side1 ?side2 A7.out).mono ?_); (case side1 => repeat (first | exact (Kd.C_below HR0_2.out HB.out) | (with_reducible refine zI ?_ _) | (with_reducible refine zH ?_ _) | (with_reducible refine zJ ?_))); (case side2 => exact HC0_2.out); rintro e w23 ⟨rfl, hb⟩; have n0_ := zA (zU (g := gb274) (o := .cells #[.int .i64 a0_0, .int .i64 a0_1, .slice A0_2 l0_2.length c0_2] 26 (0, 0)) (bA_ BK274) hb); have n1_ := zA (zU (g := gb275) (o := .cells #[.int .i64 a1_0, .int .i64 a1_1, .slice A1_2 l1_2.length c1_2] 26 (0, 0)) (bA_ BK275) hb); have n2_ := zA (below_step (bB_ HB) hb); clear BK274; clear BK275; clear HB; have BK274 := n0_; have BK275 := n1_; have HB := n2_; clear n0_ n1_ n2_; (try clear hb); (try clear hb2); (try clear hk); (try clear hi); have hcz24_0 : w23.cell? ⟨gb275, 0, none⟩ = some (.int .i64 a1_0) := (blk_cell BK275.out 0).trans rfl; have hcz24_1 : w23.cell? ⟨gb275, 1, none⟩ = some (.int .i64 a1_1) := (blk_cell BK275.out 1).trans rfl; have hcz24_2 : w23.cell? ⟨gb275, 2, none⟩ = some (.slice A1_2 l1_2.length c1_2) := (blk_cell BK275.out 2).trans rfl; have hfz24_0 := blk_frozen BK275.out 0; have hfz24_1 := blk_frozen BK275.out 1; have hfz24_2 := blk_frozen BK275.out 2) | (go_at_call 39; (with_reducible refine (spec_FieldOK.calls k a1_0 a1_1 _ _ l1_2 true _ ?side1 ?side2 A9.out).mono ?_); (case side1 => repeat (first | exact (Kd.C_below HR1_2.out HB.out) | (with_reducible refine zI ?_ _) | (with_reducible refine zH ?_ _) | (with_reducible refine zJ ?_))); (case side2 => exact HC1_2.out); rintro e w25 ⟨rfl, hb⟩; have n0_ := zA (zU (g := gb274) (o := .cells #[.int .i64 a0_0, .int .i64 a0_1, .slice A0_2 l0_2.length c0_2] 26 (0, 0)) (bA_ BK274) hb); have n1_ := zA (zU (g := gb275) (o := .cells #[.int .i64 a1_0, .int .i64 a1_1, .slice A1_2 l1_2.length c1_2] 26 (0, 0)) (bA_ BK275) hb); have n2_ := zA (below_step (bB_ HB) hb); clear BK274; clear BK275; clear HB; have BK274 := n0_; have BK275 := n1_; have HB := n2_; clear n0_ n1_ n2_; (try clear hb); (try clear hb2); (try clear hk); (try clear hi); have hcz26_0 : w25.cell? ⟨gb274, 0, none⟩ = some (.int .i64 a0_0) := (blk_cell BK274.out 0).trans rfl; have hcz26_1 : w25.cell? ⟨gb274, 1, none⟩ = some (.int .i64 a0_1) := (blk_cell BK274.out 1).trans rfl; have hcz26_2 : w25.cell? ⟨gb274, 2, none⟩ = some (.slice A0_2 l0_2.length c0_2) := (blk_cell BK274.out 2).trans rfl; have hfz26_0 := blk_frozen BK274.out 0; have hfz26_1 := blk_frozen BK274.out 1; have hfz26_2 := blk_frozen BK274.out 2; have hcz27_0 : w25.cell? ⟨gb275, 0, none⟩ = some (.int .i64 a1_0) := (blk_cell BK275.out 0).trans rfl; have hcz27_1 : w25.cell? ⟨gb275, 1, none⟩ = some (.int .i64 a1_1) := (blk_cell BK275.out 1).trans rfl; have hcz27_2 : w25.cell? ⟨gb275, 2, none⟩ = some (.slice A1_2 l1_2.length c1_2) := (blk_cell BK275.out 2).trans rfl; have hfz27_0 := blk_frozen BK275.out 0; have hfz27_1 := blk_frozen BK275.out 1; have hfz27_2 := blk_frozen BK275.out 2))
      repeat (go_quiet (first | (go_at_call 39; (with_reducible refine (spec_FieldOK.calls k a0_0 a0_1 _ _ l0_2 true _ ?side1 ?side2 A7.out).mono ?_); (case side1 => repeat (first | exact (Kd.C_below HR0_2.out HB.out) | (with_reducible refine zI ?_ _) | (with_reducible refine zH ?_ _) | (with_reducible refine zJ ?_))); (case side2 => exact HC0_2.out); rintro e w23 ⟨rfl, hb⟩; have n0_ := zA (zU (g := gb274) (o := .cells #[.int .i64 a0_0, .int .i64 a0_1, .slice A0_2 l0_2.length c0_2] 26 (0, 0)) (bA_ BK274) hb); have n1_ := zA (zU (g := gb275) (o := .cells #[.int .i64 a1_0, .int .i64 a1_1, .slice A1_2 l1_2.length c1_2] 26 (0, 0)) (bA_ BK275) hb); have n2_ := zA (below_step (bB_ HB) hb); clear BK274; clear BK275; clear HB; have BK274 := n0_; have BK275 := n1_; have HB := n2_; clear n0_ n1_ n2_; (try clear hb); (try clear hb2); (try clear hk); (try clear hi); have hcz24_0 : w23.cell? ⟨gb275, 0, none⟩ = some (.int .i64 a1_0) := (blk_cell BK275.out 0).trans rfl; have hcz24_1 : w23.cell? ⟨gb275, 1, none⟩ = some (.int .i64 a1_1) := (blk_cell BK275.out 1).trans rfl; have hcz24_2 : w23.cell? ⟨gb275, 2, none⟩ = some (.slice A1_2 l1_2.length c1_2) := (blk_cell BK275.out 2).trans rfl; have hfz24_0 := blk_frozen BK275.out 0; have hfz24_1 := blk_frozen BK275.out 1; have hfz24_2 := blk_frozen BK275.out 2) | (go_at_call 39; (with_reducible refine (spec_FieldOK.calls k a1_0 a1_1 _ _ l1_2 true _ ?side1 ?side2 A9.out).mono ?_); (case side1 => repeat (first | exact (Kd.C_below HR1_2.out HB.out) | (with_reducible refine zI ?_ _) | (with_reducible refine zH ?_ _) | (with_reducible refine zJ ?_))); (case side2 => exact HC1_2.out); rintro e w25 ⟨rfl, hb⟩; have n0_ := zA (zU (g := gb274) (o := .cells #[.int .i64 a0_0, .int .i64 a0_1, .slice A0_2 l0_2.length c0_2] 26 (0, 0)) (bA_ BK274) hb); have n1_ := zA (zU (g := gb275) (o := .cells #[.int .i64 a1_0, .int .i64 a1_1, .slice A1_2 l1_2.length c1_2] 26 (0, 0)) (bA_ BK275) hb); have n2_ := zA (below_step (bB_ HB) hb); clear BK274; clear BK275; clear HB; have BK274 := n0_; have BK275 := n1_; have HB := n2_; clear n0_ n1_ n2_; (try clear hb); (try clear hb2); (try clear hk); (try clear hi); have hcz26_0 : w25.cell? ⟨gb274, 0, none⟩ = some (.int .i64 a0_0) := (blk_cell BK274.out 0).trans rfl; have hcz26_1 : w25.cell? ⟨gb274, 1, none⟩ = some (.int .i64 a0_1) := (blk_cell BK274.out 1).trans rfl; have hcz26_2 : w25.cell? ⟨gb274, 2, none⟩ = some (.slice A0_2 l0_2.length c0_2) := (blk_cell BK274.out 2).trans rfl; have hfz26_0 := blk_frozen BK274.out 0; have hfz26_1 := blk_frozen BK274.out 1; have hfz26_2 := blk_frozen BK274.out 2; have hcz27_0 : w25.cell? ⟨gb275, 0, none⟩ = some (.int .i64 a1_0) := (blk_cell BK275.out 0).trans rfl; have hcz27_1 : w25.cell? ⟨gb275, 1, none⟩ = some (.int .i64 a1_1) := (blk_cell BK275.out 1).trans rfl; have hcz27_2 : w25.cell? ⟨gb275, 2, none⟩ = some (.slice A1_2 l1_2.length c1_2) := (blk_cell BK275.out 2).trans rfl; have hfz27_0 := blk_frozen BK275.out 0; have hfz27_1 := blk_frozen BK275.out 1; have hfz27_2 := blk_frozen BK275.out 2)); try go_wp2_with (first | (go_at_call 39; (with_reducible refine (spec_FieldOK.calls k a0_0 a0_1 _ _ l0_2 true _ ?side1 ?side2 A7.out).mono ?_); (case side1 => repeat (first | exact (Kd.C_below HR0_2.out HB.out) | (with_reducible refine zI ?_ _) | (with_reducible refine zH ?_ _) | (with_reducible refine zJ ?_))); (case side2 => exact HC0_2.out); rintro e w23 ⟨rfl, hb⟩; have n0_ := zA (zU (g := gb274) (o := .cells #[.int .i64 a0_0, .int .i64 a0_1, .slice A0_2 l0_2.length c0_2] 26 (0, 0)) (bA_ BK274) hb); have n1_ := zA (zU (g := gb275) (o := .cells #[.int .i64 a1_0, .int .i64 a1_1, .slice A1_2 l1_2.length c1_2] 26 (0, 0)) (bA_ BK275) hb); have n2_ := zA (below_step (bB_ HB) hb); clear BK274; clear BK275; clear HB; have BK274 := n0_; have BK275 := n1_; have HB := n2_; clear n0_ n1_ n2_; (try clear hb); (try clear hb2); (try clear hk); (try clear hi); have hcz24_0 : w23.cell? ⟨gb275, 0, none⟩ = some (.int .i64 a1_0) := (blk_cell BK275.out 0).trans rfl; have hcz24_1 : w23.cell? ⟨gb275, 1, none⟩ = some (.int .i64 a1_1) := (blk_cell BK275.out 1).trans rfl; have hcz24_2 : w23.cell? ⟨gb275, 2, none⟩ = some (.slice A1_2 l1_2.length c1_2) := (blk_cell BK275.out 2).trans rfl; have hfz24_0 := blk_frozen BK275.out 0; have hfz24_1 := blk_frozen BK275.out 1; have hfz24_2 := blk_frozen BK275.out 2) | (go_at_call 39; (with_reducible refine (spec_FieldOK.calls k a1_0 a1_1 _ _ l1_2 true _ ?side1 ?side2 A9.out).mono ?_); (case side1 => repeat (first | exact (Kd.C_below HR1_2.out HB.out) | (with_reducible refine zI ?_ _) | (with_reducible refine zH ?_ _) | (with_reducible refine zJ ?_))); (case side2 => exact HC1_2.out); rintro e w25 ⟨rfl, hb⟩; have n0_ := zA (zU (g := gb274) (o := .cells #[.int .i64 a0_0, .int .i64 a0_1, .slice A0_2 l0_2.length c0_2] 26 (0, 0)) (bA_ BK274) hb); have n1_ := zA (zU (g := gb275) (o := .cells #[.int .i64 a1_0, .int .i64 a1_1, .slice A1_2 l1_2.length c1_2] 26 (0, 0)) (bA_ BK275) hb); have n2_ := zA (below_step (bB_ HB) hb); clear BK274; clear BK275; clear HB; have BK274 := n0_; have BK275 := n1_; have HB := n2_; clear n0_ n1_ n2_; (try clear hb); (try clear hb2); (try clear hk); (try clear hi); have hcz26_0 : w25.cell? ⟨gb274, 0, none⟩ = some (.int .i64 a0_0) := (blk_cell BK274.out 0).trans rfl; have hcz26_1 : w25.cell? ⟨gb274, 1, none⟩ = some (.int .i64 a0_1) := (blk_cell BK274.out 1).trans rfl; have hcz26_2 : w25.cell? ⟨gb274, 2, none⟩ = some (.slice A0_2 l0_2.length c0_2) := (blk_cell BK274.out 2).trans rfl; have hfz26_0 := blk_frozen BK274.out 0; have hfz26_1 := blk_frozen BK274.out 1; have hfz26_2 := blk_frozen BK274.out 2; have hcz27_0 : w25.cell? ⟨gb275, 0, none⟩ = some (.int .i64 a1_0) := (blk_cell BK275.out 0).trans rfl; have hcz27_1 : w25.cell? ⟨gb275, 1, none⟩ = some (.int .i64 a1_1) := (blk_cell BK275.out 1).trans rfl; have hcz27_2 : w25.cell? ⟨gb275, 2, none⟩ = some (.slice A1_2 l1_2.length c1_2) := (blk_cell BK275.out 2).trans rfl; have hfz27_0 := blk_frozen BK275.out 0; have hfz27_1 := blk_frozen BK275.out 1; have hfz27_2 := blk_frozen BK275.out 2)))
      go_meet
      case rel => exact ⟨_, (true), (by first | rfl | (simp; done) | (simp [*]; done)), H', ⟨by first | omega | exact Nat.le_refl _⟩, ⟨bA_ BK274⟩, ⟨bA_ BK275⟩, ⟨bB_ HB⟩⟩
    ·rw [if_neg c11] at H
     have c11b0 : (a0_0 == a1_0) = false := beq_eq_false_iff_ne.mpr c11
     have c11b1 : (a0_0 != a1_0) = true := bne_iff_ne.mpr c11
     (first | rw [c11b0] | (simp only [i64_w, i32_w]; rw [c11b0]) | skip)
     have H' := zA H
     clear H
     have hnb28 := NB274_275.out
     have hnc28 := NB275_274.out
     have hcz29_0 : w6.cell? ⟨gb274, 0, none⟩ = some (.int .i64 a0_0) := (blk_cell BK274.out 0).trans rfl
     have hcz29_1 : w6.cell? ⟨gb274, 1, none⟩ = some (.int .i64 a0_1) := (blk_cell BK274.out 1).trans rfl
     have hcz29_2 : w6.cell? ⟨gb274, 2, none⟩ = some (.slice A0_2 l0_2.length c0_2) := (blk_cell BK274.out 2).trans rfl
     have hfz29_0 := blk_frozen BK274.out 0
     have hfz29_1 := blk_frozen BK274.out 1
     have hfz29_2 := blk_frozen BK274.out 2
     go_wp2_with (first | (go_at_call 39; (with_reducible refine (spec_FieldOK.calls k a0_0 a0_1 _ _ l0_2 true _ ?side1 ?side2 A7.out).mono ?_); (case side1 => repeat (first | exact (Kd.C_below HR0_2.out HB.out) | (with_reducible refine zI ?_ _) | (with_reducible refine zH ?_ _) | (with_reducible refine zJ ?_))); (case side2 => exact HC0_2.out); rintro e w30 ⟨rfl, hb⟩; have n0_ := zA (zU (g := gb274) (o := .cells #[.int .i64 a0_0, .int .i64 a0_1, .slice A0_2 l0_2.length c0_2] 26 (0, 0)) (bA_ BK274) hb); have n1_ := zA (zU (g := gb275) (o := .cells #[.int .i64 a1_0, .int .i64 a1_1, .slice A1_2 l1_2.length c1_2] 26 (0, 0)) (bA_ BK275) hb); have n2_ := zA (below_step (bB_ HB) hb); clear BK274; clear BK275; clear HB; have BK274 := n0_; have BK275 := n1_; have HB := n2_; clear n0_ n1_ n2_; (try clear hb); (try clear hb2); (try clear hk); (try clear hi); have hcz31_0 : w30.cell? ⟨gb275, 0, none⟩ = some (.int .i64 a1_0) := (blk_cell BK275.out 0).trans rfl; have hcz31_1 : w30.cell? ⟨gb275, 1, none⟩ = some (.int .i64 a1_1) := (blk_cell BK275.out 1).trans rfl; have hcz31_2 : w30.cell? ⟨gb275, 2, none⟩ = some (.slice A1_2 l1_2.length c1_2) := (blk_cell BK275.out 2).trans rfl; have hfz31_0 := blk_frozen BK275.out 0; have hfz31_1 := blk_frozen BK275.out 1; have hfz31_2 := blk_frozen BK275.out 2) | (go_at_call 39; (with_reducible refine (spec_FieldOK.calls k a1_0 a1_1 _ _ l1_2 true _ ?side1 ?side2 A9.out).mono ?_); (case side1 => repeat (first | exact (Kd.C_below HR1_2.out HB.out) | (with_reducible refine zI ?_ _) | (with_reducible refine zH ?_ _) | (with_reducible refine zJ ?_))); (case side2 => exact HC1_2.out); rintro e w32 ⟨rfl, hb⟩; have n0_ := zA (zU (g := gb274) (o := .cells #[.int .i64 a0_0, .int .i64 a0_1, .slice A0_2 l0_2.length c0_2] 26 (0, 0)) (bA_ BK274) hb); have n1_ := zA (zU (g := gb275) (o := .cells #[.int .i64 a1_0, .int .i64 a1_1, .slice A1_2 l1_2.length c1_2] 26 (0, 0)) (bA_ BK275) hb); have n2_ := zA (below_step (bB_ HB) hb); clear BK274; clear BK275; clear HB; have BK274 := n0_; have BK275 := n1_; have HB := n2_; clear n0_ n1_ n2_; (try clear hb); (try clear hb2); (try clear hk); (try clear hi); have hcz33_0 : w32.cell? ⟨gb274, 0, none⟩ = some (.int .i64 a0_0) := (blk_cell BK274.out 0).trans rfl; have hcz33_1 : w32.cell? ⟨gb274, 1, none⟩ = some (.int .i64 a0_1) := (blk_cell BK274.out 1).trans rfl; have hcz33_2 : w32.cell? ⟨gb274, 2, none⟩ = some (.slice A0_2 l0_2.length c0_2) := (blk_cell BK274.out 2).trans rfl; have hfz33_0 := blk_frozen BK274.out 0; have hfz33_1 := blk_frozen BK274.out 1; have hfz33_2 := blk_frozen BK274.out 2; have hcz34_0 : w32.cell? ⟨gb275, 0, none⟩ = some (.int .i64 a1_0) := (blk_cell BK275.out 0).trans rfl; have hcz34_1 : w32.cell? ⟨gb275, 1, none⟩ = some (.int .i64 a1_1) := (blk_cell BK275.out 1).trans rfl; have hcz34_2 : w32.cell? ⟨gb275, 2, none⟩ = some (.slice A1_2 l1_2.length c1_2) := (blk_cell BK275.out 2).trans rfl; have hfz34_0 := blk_frozen BK275.out 0; have hfz34_1 := blk_frozen BK275.out 1; have hfz34_2 := blk_frozen BK275.out 2))
     repeat (go_quiet (first | (go_at_call 39; (with_reducible refine (spec_FieldOK.calls k a0_0 a0_1 _ _ l0_2 true _ ?side1 ?side2 A7.out).mono ?_); (case side1 => repeat (first | exact (Kd.C_below HR0_2.out HB.out) | (with_reducible refine zI ?_ _) | (with_reducible refine zH ?_ _) | (with_reducible refine zJ ?_))); (case side2 => exact HC0_2.out); rintro e w30 ⟨rfl, hb⟩; have n0_ := zA (zU (g := gb274) (o := .cells #[.int .i64 a0_0, .int .i64 a0_1, .slice A0_2 l0_2.length c0_2] 26 (0, 0)) (bA_ BK274) hb); have n1_ := zA (zU (g := gb275) (o := .cells #[.int .i64 a1_0, .int .i64 a1_1, .slice A1_2 l1_2.length c1_2] 26 (0, 0)) (bA_ BK275) hb); have n2_ := zA (below_step (bB_ HB) hb); clear BK274; clear BK275; clear HB; have BK274 := n0_; have BK275 := n1_; have HB := n2_; clear n0_ n1_ n2_; (try clear hb); (try clear hb2); (try clear hk); (try clear hi); have hcz31_0 : w30.cell? ⟨gb275, 0, none⟩ = some (.int .i64 a1_0) := (blk_cell BK275.out 0).trans rfl; have hcz31_1 : w30.cell? ⟨gb275, 1, none⟩ = some (.int .i64 a1_1) := (blk_cell BK275.out 1).trans rfl; have hcz31_2 : w30.cell? ⟨gb275, 2, none⟩ = some (.slice A1_2 l1_2.length c1_2) := (blk_cell BK275.out 2).trans rfl; have hfz31_0 := blk_frozen BK275.out 0; have hfz31_1 := blk_frozen BK275.out 1; have hfz31_2 := blk_frozen BK275.out 2) | (go_at_call 39; (with_reducible refine (spec_FieldOK.calls k a1_0 a1_1 _ _ l1_2 true _ ?side1 ?side2 A9.out).mono ?_); (case side1 => repeat (first | exact (Kd.C_below HR1_2.out HB.out) | (with_reducible refine zI ?_ _) | (with_reducible refine zH ?_ _) | (with_reducible refine zJ ?_))); (case side2 => exact HC1_2.out); rintro e w32 ⟨rfl, hb⟩; have n0_ := zA (zU (g := gb274) (o := .cells #[.int .i64 a0_0, .int .i64 a0_1, .slice A0_2 l0_2.length c0_2] 26 (0, 0)) (bA_ BK274) hb); have n1_ := zA (zU (g := gb275) (o := .cells #[.int .i64 a1_0, .int .i64 a1_1, .slice A1_2 l1_2.length c1_2] 26 (0, 0)) (bA_ BK275) hb); have n2_ := zA (below_step (bB_ HB) hb); clear BK274; clear BK275; clear HB; have BK274 := n0_; have BK275 := n1_; have HB := n2_; clear n0_ n1_ n2_; (try clear hb); (try clear hb2); (try clear hk); (try clear hi); have hcz33_0 : w32.cell? ⟨gb274, 0, none⟩ = some (.int .i64 a0_0) := (blk_cell BK274.out 0).trans rfl; have hcz33_1 : w32.cell? ⟨gb274, 1, none⟩ = some (.int .i64 a0_1) := (blk_cell BK274.out 1).trans rfl; have hcz33_2 : w32.cell? ⟨gb274, 2, none⟩ = some (.slice A0_2 l0_2.length c0_2) := (blk_cell BK274.out 2).trans rfl; have hfz33_0 := blk_frozen BK274.out 0; have hfz33_1 := blk_frozen BK274.out 1; have hfz33_2 := blk_frozen BK274.out 2; have hcz34_0 : w32.cell? ⟨gb275, 0, none⟩ = some (.int .i64 a1_0) := (blk_cell BK275.out 0).trans rfl; have hcz34_1 : w32.cell? ⟨gb275, 1, none⟩ = some (.int .i64 a1_1) := (blk_cell BK275.out 1).trans rfl; have hcz34_2 : w32.cell? ⟨gb275, 2, none⟩ = some (.slice A1_2 l1_2.length c1_2) := (blk_cell BK275.out 2).trans rfl; have hfz34_0 := blk_frozen BK275.out 0; have hfz34_1 := blk_frozen BK275.out 1; have hfz34_2 := blk_frozen BK275.out 2)); try go_wp2_with (first | (go_at_call 39; (with_reducible refine (spec_FieldOK.calls k a0_0 a0_1 _ _ l0_2 true _ ?side1 ?side2 A7.out).mono ?_); (case side1 => repeat (first | exact (Kd.C_below HR0_2.out HB.out) | (with_reducible refine zI ?_ _) | (with_reducible refine zH ?_ _) | (with_reducible refine zJ ?_))); (case side2 => exact HC0_2.out); rintro e w30 ⟨rfl, hb⟩; have n0_ := zA (zU (g := gb274) (o := .cells #[.int .i64 a0_0, .int .i64 a0_1, .slice A0_2 l0_2.length c0_2] 26 (0, 0)) (bA_ BK274) hb); have n1_ := zA (zU (g := gb275) (o := .cells #[.int .i64 a1_0, .int .i64 a1_1, .slice A1_2 l1_2.length c1_2] 26 (0, 0)) (bA_ BK275) hb); have n2_ := zA (below_step (bB_ HB) hb); clear BK274; clear BK275; clear HB; have BK274 := n0_; have BK275 := n1_; have HB := n2_; clear n0_ n1_ n2_; (try clear hb); (try clear hb2); (try clear hk); (try clear hi); have hcz31_0 : w30.cell? ⟨gb275, 0, none⟩ = some (.int .i64 a1_0) := (blk_cell BK275.out 0).trans rfl; have hcz31_1 : w30.cell? ⟨gb275, 1, none⟩ = some (.int .i64 a1_1) := (blk_cell BK275.out 1).trans rfl; have hcz31_2 : w30.cell? ⟨gb275, 2, none⟩ = some (.slice A1_2 l1_2.length c1_2) := (blk_cell BK275.out 2).trans rfl; have hfz31_0 := blk_frozen BK275.out 0; have hfz31_1 := blk_frozen BK275.out 1; have hfz31_2 := blk_frozen BK275.out 2) | (go_at_call 39; (with_reducible refine (spec_FieldOK.calls k a1_0 a1_1 _ _ l1_2 true _ ?side1 ?side2 A9.out).mono ?_); (case side1 => repeat (first | exact (Kd.C_below HR1_2.out HB.out) | (with_reducible refine zI ?_ _) | (with_reducible refine zH ?_ _) | (with_reducible refine zJ ?_))); (case side2 => exact HC1_2.out); rintro e w32 ⟨rfl, hb⟩; have n0_ := zA (zU (g := gb274) (o := .cells #[.int .i64 a0_0, .int .i64 a0_1, .slice A0_2 l0_2.length c0_2] 26 (0, 0)) (bA_ BK274) hb); have n1_ := zA (zU (g := gb275) (o := .cells #[.int .i64 a1_0, .int .i64 a1_1, .slice A1_2 l1_2.length c1_2] 26 (0, 0)) (bA_ BK275) hb); have n2_ := zA (below_step (bB_ HB) hb); clear BK274; clear BK275; clear HB; have BK274 := n0_; have BK275 := n1_; have HB := n2_; clear n0_ n1_ n2_; (try clear hb); (try clear hb2); (try clear hk); (try clear hi); have hcz33_0 : w32.cell? ⟨gb274, 0, none⟩ = some (.int .i64 a0_0) := (blk_cell BK274.out 0).trans rfl; have hcz33_1 : w32.cell? ⟨gb274, 1, none⟩ = some (.int .i64 a0_1) := (blk_cell BK274.out 1).trans rfl; have hcz33_2 : w32.cell? ⟨gb274, 2, none⟩ = some (.slice A0_2 l0_2.length c0_2) := (blk_cell BK274.out 2).trans rfl; have hfz33_0 := blk_frozen BK274.out 0; have hfz33_1 := blk_frozen BK274.out 1; have hfz33_2 := blk_frozen BK274.out 2; have hcz34_0 : w32.cell? ⟨gb275, 0, none⟩ = some (.int .i64 a1_0) := (blk_cell BK275.out 0).trans rfl; have hcz34_1 : w32.cell? ⟨gb275, 1, none⟩ = some (.int .i64 a1_1) := (blk_cell BK275.out 1).trans rfl; have hcz34_2 : w32.cell? ⟨gb275, 2, none⟩ = some (.slice A1_2 l1_2.length c1_2) := (blk_cell BK275.out 2).trans rfl; have hfz34_0 := blk_frozen BK275.out 0; have hfz34_1 := blk_frozen BK275.out 1; have hfz34_2 := blk_frozen BK275.out 2)))
     go_meet
     case rel => exact ⟨_, (true), (by first | rfl | (simp; done) | (simp [*]; done)), H', ⟨by first | omega | exact Nat.le_refl _⟩, ⟨bA_ BK274⟩, ⟨bA_ BK275⟩, ⟨bB_ HB⟩⟩
   ·replace c10 := Bool.eq_false_iff.mpr c10
    subst c10
    have H1 : (spec_l10Pair.j0 k true a0_0 a0_1 l0_2 a1_0 a1_1 l1_2) = some r := by rw [if_neg (show ¬ (false = true) by decide)] at H; exact H
    clear H
    have H := H1
    clear H1
    have H' := zA H
    clear H
    have hnb35 := NB274_275.out
    have hnc35 := NB275_274.out
    have hcz36_0 : w6.cell? ⟨gb274, 0, none⟩ = some (.int .i64 a0_0) := (blk_cell BK274.out 0).trans rfl
    have hcz36_1 : w6.cell? ⟨gb274, 1, none⟩ = some (.int .i64 a0_1) := (blk_cell BK274.out 1).trans rfl
    have hcz36_2 : w6.cell? ⟨gb274, 2, none⟩ = some (.slice A0_2 l0_2.length c0_2) := (blk_cell BK274.out 2).trans rfl
    have hfz36_0 := blk_frozen BK274.out 0
    have hfz36_1 := blk_frozen BK274.out 1
    have hfz36_2 := blk_frozen BK274.out 2
    go_wp2_with (first | (go_at_call 39; (with_reducible refine (spec_FieldOK.calls k a0_0 a0_1 _ _ l0_2 true _ ?side1 ?side2 A7.out).mono ?_); (case side1 => repeat (first | exact (Kd.C_below HR0_2.out HB.out) | (with_reducible refine zI ?_ _) | (with_reducible refine zH ?_ _) | (with_reducible refine zJ ?_))); (case side2 => exact HC0_2.out); rintro e w37 ⟨rfl, hb⟩; have n0_ := zA (zU (g := gb274) (o := .cells #[.int .i64 a0_0, .int .i64 a0_1, .slice A0_2 l0_2.length c0_2] 26 (0, 0)) (bA_ BK274) hb); have n1_ := zA (zU (g := gb275) (o := .cells #[.int .i64 a1_0, .int .i64 a1_1, .slice A1_2 l1_2.length c1_2] 26 (0, 0)) (bA_ BK275) hb); have n2_ := zA (below_step (bB_ HB) hb); clear BK274; clear BK275; clear HB; have BK274 := n0_; have BK275 := n1_; have HB := n2_; clear n0_ n1_ n2_; (try clear hb); (try clear hb2); (try clear hk); (try clear hi); have hcz38_0 : w37.cell? ⟨gb275, 0, none⟩ = some (.int .i64 a1_0) := (blk_cell BK275.out 0).trans rfl; have hcz38_1 : w37.cell? ⟨gb275, 1, none⟩ = some (.int .i64 a1_1) := (blk_cell BK275.out 1).trans rfl; have hcz38_2 : w37.cell? ⟨gb275, 2, none⟩ = some (.slice A1_2 l1_2.length c1_2) := (blk_cell BK275.out 2).trans rfl; have hfz38_0 := blk_frozen BK275.out 0; have hfz38_1 := blk_frozen BK275.out 1; have hfz38_2 := blk_frozen BK275.out 2) | (go_at_call 39; (with_reducible refine (spec_FieldOK.calls k a1_0 a1_1 _ _ l1_2 false _ ?side1 ?side2 A9.out).mono ?_); (case side1 => repeat (first | exact (Kd.C_below HR1_2.out HB.out) | (with_reducible refine zI ?_ _) | (with_reducible refine zH ?_ _) | (with_reducible refine zJ ?_))); (case side2 => exact HC1_2.out); rintro e w39 ⟨rfl, hb⟩; have n0_ := zA (zU (g := gb274) (o := .cells #[.int .i64 a0_0, .int .i64 a0_1, .slice A0_2 l0_2.length c0_2] 26 (0, 0)) (bA_ BK274) hb); have n1_ := zA (zU (g := gb275) (o := .cells #[.int .i64 a1_0, .int .i64 a1_1, .slice A1_2 l1_2.length c1_2] 26 (0, 0)) (bA_ BK275) hb); have n2_ := zA (below_step (bB_ HB) hb); clear BK274; clear BK275; clear HB; have BK274 := n0_; have BK275 := n1_; have HB := n2_; clear n0_ n1_ n2_; (try clear hb); (try clear hb2); (try clear hk); (try clear hi)))
    repeat (go_quiet (first | (go_at_call 39; (with_reducible refine (spec_FieldOK.calls k a0_0 a0_1 _ _ l0_2 true _ ?side1 ?side2 A7.out).mono ?_); (case side1 => repeat (first | exact (Kd.C_below HR0_2.out HB.out) | (with_reducible refine zI ?_ _) | (with_reducible refine zH ?_ _) | (with_reducible refine zJ ?_))); (case side2 => exact HC0_2.out); rintro e w37 ⟨rfl, hb⟩; have n0_ := zA (zU (g := gb274) (o := .cells #[.int .i64 a0_0, .int .i64 a0_1, .slice A0_2 l0_2.length c0_2] 26 (0, 0)) (bA_ BK274) hb); have n1_ := zA (zU (g := gb275) (o := .cells #[.int .i64 a1_0, .int .i64 a1_1, .slice A1_2 l1_2.length c1_2] 26 (0, 0)) (bA_ BK275) hb); have n2_ := zA (below_step (bB_ HB) hb); clear BK274; clear BK275; clear HB; have BK274 := n0_; have BK275 := n1_; have HB := n2_; clear n0_ n1_ n2_; (try clear hb); (try clear hb2); (try clear hk); (try clear hi); have hcz38_0 : w37.cell? ⟨gb275, 0, none⟩ = some (.int .i64 a1_0) := (blk_cell BK275.out 0).trans rfl; have hcz38_1 : w37.cell? ⟨gb275, 1, none⟩ = some (.int .i64 a1_1) := (blk_cell BK275.out 1).trans rfl; have hcz38_2 : w37.cell? ⟨gb275, 2, none⟩ = some (.slice A1_2 l1_2.length c1_2) := (blk_cell BK275.out 2).trans rfl; have hfz38_0 := blk_frozen BK275.out 0; have hfz38_1 := blk_frozen BK275.out 1; have hfz38_2 := blk_frozen BK275.out 2) | (go_at_call 39; (with_reducible refine (spec_FieldOK.calls k a1_0 a1_1 _ _ l1_2 false _ ?side1 ?side2 A9.out).mono ?_); (case side1 => repeat (first | exact (Kd.C_below HR1_2.out HB.out) | (with_reducible refine zI ?_ _) | (with_reducible refine zH ?_ _) | (with_reducible refine zJ ?_))); (case side2 => exact HC1_2.out); rintro e w39 ⟨rfl, hb⟩; have n0_ := zA (zU (g := gb274) (o := .cells #[.int .i64 a0_0, .int .i64 a0_1, .slice A0_2 l0_2.length c0_2] 26 (0, 0)) (bA_ BK274) hb); have n1_ := zA (zU (g := gb275) (o := .cells #[.int .i64 a1_0, .int .i64 a1_1, .slice A1_2 l1_2.length c1_2] 26 (0, 0)) (bA_ BK275) hb); have n2_ := zA (below_step (bB_ HB) hb); clear BK274; clear BK275; clear HB; have BK274 := n0_; have BK275 := n1_; have HB := n2_; clear n0_ n1_ n2_; (try clear hb); (try clear hb2); (try clear hk); (try clear hi))); try go_wp2_with (first | (go_at_call 39; (with_reducible refine (spec_FieldOK.calls k a0_0 a0_1 _ _ l0_2 true _ ?side1 ?side2 A7.out).mono ?_); (case side1 => repeat (first | exact (Kd.C_below HR0_2.out HB.out) | (with_reducible refine zI ?_ _) | (with_reducible refine zH ?_ _) | (with_reducible refine zJ ?_))); (case side2 => exact HC0_2.out); rintro e w37 ⟨rfl, hb⟩; have n0_ := zA (zU (g := gb274) (o := .cells #[.int .i64 a0_0, .int .i64 a0_1, .slice A0_2 l0_2.length c0_2] 26 (0, 0)) (bA_ BK274) hb); have n1_ := zA (zU (g := gb275) (o := .cells #[.int .i64 a1_0, .int .i64 a1_1, .slice A1_2 l1_2.length c1_2] 26 (0, 0)) (bA_ BK275) hb); have n2_ := zA (below_step (bB_ HB) hb); clear BK274; clear BK275; clear HB; have BK274 := n0_; have BK275 := n1_; have HB := n2_; clear n0_ n1_ n2_; (try clear hb); (try clear hb2); (try clear hk); (try clear hi); have hcz38_0 : w37.cell? ⟨gb275, 0, none⟩ = some (.int .i64 a1_0) := (blk_cell BK275.out 0).trans rfl; have hcz38_1 : w37.cell? ⟨gb275, 1, none⟩ = some (.int .i64 a1_1) := (blk_cell BK275.out 1).trans rfl; have hcz38_2 : w37.cell? ⟨gb275, 2, none⟩ = some (.slice A1_2 l1_2.length c1_2) := (blk_cell BK275.out 2).trans rfl; have hfz38_0 := blk_frozen BK275.out 0; have hfz38_1 := blk_frozen BK275.out 1; have hfz38_2 := blk_frozen BK275.out 2) | (go_at_call 39; (with_reducible refine (spec_FieldOK.calls k a1_0 a1_1 _ _ l1_2 false _ ?side1 ?side2 A9.out).mono ?_); (case side1 => repeat (first | exact (Kd.C_below HR1_2.out HB.out) | (with_reducible refine zI ?_ _) | (with_reducible refine zH ?_ _) | (with_reducible refine zJ ?_))); (case side2 => exact HC1_2.out); rintro e w39 ⟨rfl, hb⟩; have n0_ := zA (zU (g := gb274) (o := .cells #[.int .i64 a0_0, .int .i64 a0_1, .slice A0_2 l0_2.length c0_2] 26 (0, 0)) (bA_ BK274) hb); have n1_ := zA (zU (g := gb275) (o := .cells #[.int .i64 a1_0, .int .i64 a1_1, .slice A1_2 l1_2.length c1_2] 26 (0, 0)) (bA_ BK275) hb); have n2_ := zA (below_step (bB_ HB) hb); clear BK274; clear BK275; clear HB; have BK274 := n0_; have BK275 := n1_; have HB := n2_; clear n0_ n1_ n2_; (try clear hb); (try clear hb2); (try clear hk); (try clear hi))))
    go_meet
    case rel => exact ⟨_, (true), (by first | rfl | (simp; done) | (simp [*]; done)), H', ⟨by first | omega | exact Nat.le_refl _⟩, ⟨bA_ BK274⟩, ⟨bA_ BK275⟩, ⟨bB_ HB⟩⟩
  ·replace c8 := Bool.eq_false_iff.mpr c8
   subst c8
   have H1 : (spec_l10Pair.j0 k true a0_0 a0_1 l0_2 a1_0 a1_1 l1_2) = some r := by rw [if_neg (show ¬ (false = true) by decide)] at H; exact H
   clear H
   have H := H1
   clear H1
   have H' := zA H
   clear H
   have hnb40 := NB274_275.out
   have hnc40 := NB275_274.out
   have hcz41_0 : w6.cell? ⟨gb274, 0, none⟩ = some (.int .i64 a0_0) := (blk_cell BK274.out 0).trans rfl
   have hcz41_1 : w6.cell? ⟨gb274, 1, none⟩ = some (.int .i64 a0_1) := (blk_cell BK274.out 1).trans rfl
   have hcz41_2 : w6.cell? ⟨gb274, 2, none⟩ = some (.slice A0_2 l0_2.length c0_2) := (blk_cell BK274.out 2).trans rfl
   have hfz41_0 := blk_frozen BK274.out 0
   have hfz41_1 := blk_frozen BK274.out 1
   have hfz41_2 := blk_frozen BK274.out 2
   go_wp2_with (first | (go_at_call 39; (with_reducible refine (spec_FieldOK.calls k a0_0 a0_1 _ _ l0_2 false _ ?side1 ?side2 A7.out).mono ?_); (case side1 => repeat (first | exact (Kd.C_below HR0_2.out HB.out) | (with_reducible refine zI ?_ _) | (with_reducible refine zH ?_ _) | (with_reducible refine zJ ?_))); (case side2 => exact HC0_2.out); rintro e w42 ⟨rfl, hb⟩; have n0_ := zA (zU (g := gb274) (o := .cells #[.int .i64 a0_0, .int .i64 a0_1, .slice A0_2 l0_2.length c0_2] 26 (0, 0)) (bA_ BK274) hb); have n1_ := zA (zU (g := gb275) (o := .cells #[.int .i64 a1_0, .int .i64 a1_1, .slice A1_2 l1_2.length c1_2] 26 (0, 0)) (bA_ BK275) hb); have n2_ := zA (below_step (bB_ HB) hb); clear BK274; clear BK275; clear HB; have BK274 := n0_; have BK275 := n1_; have HB := n2_; clear n0_ n1_ n2_; (try clear hb); (try clear hb2); (try clear hk); (try clear hi)))
   repeat (go_quiet (first | (go_at_call 39; (with_reducible refine (spec_FieldOK.calls k a0_0 a0_1 _ _ l0_2 false _ ?side1 ?side2 A7.out).mono ?_); (case side1 => repeat (first | exact (Kd.C_below HR0_2.out HB.out) | (with_reducible refine zI ?_ _) | (with_reducible refine zH ?_ _) | (with_reducible refine zJ ?_))); (case side2 => exact HC0_2.out); rintro e w42 ⟨rfl, hb⟩; have n0_ := zA (zU (g := gb274) (o := .cells #[.int .i64 a0_0, .int .i64 a0_1, .slice A0_2 l0_2.length c0_2] 26 (0, 0)) (bA_ BK274) hb); have n1_ := zA (zU (g := gb275) (o := .cells #[.int .i64 a1_0, .int .i64 a1_1, .slice A1_2 l1_2.length c1_2] 26 (0, 0)) (bA_ BK275) hb); have n2_ := zA (below_step (bB_ HB) hb); clear BK274; clear BK275; clear HB; have BK274 := n0_; have BK275 := n1_; have HB := n2_; clear n0_ n1_ n2_; (try clear hb); (try clear hb2); (try clear hk); (try clear hi))); try go_wp2_with (first | (go_at_call 39; (with_reducible refine (spec_FieldOK.calls k a0_0 a0_1 _ _ l0_2 false _ ?side1 ?side2 A7.out).mono ?_); (case side1 => repeat (first | exact (Kd.C_below HR0_2.out HB.out) | (with_reducible refine zI ?_ _) | (with_reducible refine zH ?_ _) | (with_reducible refine zJ ?_))); (case side2 => exact HC0_2.out); rintro e w42 ⟨rfl, hb⟩; have n0_ := zA (zU (g := gb274) (o := .cells #[.int .i64 a0_0, .int .i64 a0_1, .slice A0_2 l0_2.length c0_2] 26 (0, 0)) (bA_ BK274) hb); have n1_ := zA (zU (g := gb275) (o := .cells #[.int .i64 a1_0, .int .i64 a1_1, .slice A1_2 l1_2.length c1_2] 26 (0, 0)) (bA_ BK275) hb); have n2_ := zA (below_step (bB_ HB) hb); clear BK274; clear BK275; clear HB; have BK274 := n0_; have BK275 := n1_; have HB := n2_; clear n0_ n1_ n2_; (try clear hb); (try clear hb2); (try clear hk); (try clear hi))))
   go_meet
   case rel => exact ⟨_, (true), (by first | rfl | (simp; done) | (simp [*]; done)), H', ⟨by first | omega | exact Nat.le_refl _⟩, ⟨bA_ BK274⟩, ⟨bA_ BK275⟩, ⟨bB_ HB⟩⟩
 case rest =>
  clear HC4
  try clear c1
  try clear c2
  try clear p2
  try clear c3
  try clear c4
  try clear c5
  try clear c8
  try clear c10
  try clear c11
  try clear c11b0
  try clear c11b1
  try clear c12
  try clear c12b0
  try clear c12b1
  try clear c14
  try clear c21
  try clear c28
  try clear c35
  try clear c40
  try clear hcz15_0
  try clear hcz15_1
  try clear hcz15_2
  try clear hcz17_0
  try clear hcz17_1
  try clear hcz17_2
  try clear hcz19_0
  try clear hcz19_1
  try clear hcz19_2
  try clear hcz20_0
  try clear hcz20_1
  try clear hcz20_2
  try clear hcz22_0
  try clear hcz22_1
  try clear hcz22_2
  try clear hcz24_0
  try clear hcz24_1
  try clear hcz24_2
  try clear hcz26_0
  try clear hcz26_1
  try clear hcz26_2
  try clear hcz27_0
  try clear hcz27_1
  try clear hcz27_2
  try clear hcz29_0
  try clear hcz29_1
  try clear hcz29_2
  try clear hcz31_0
  try clear hcz31_1
  try clear hcz31_2
  try clear hcz33_0
  try clear hcz33_1
  try clear hcz33_2
  try clear hcz34_0
  try clear hcz34_1
  try clear hcz34_2
  try clear hcz36_0
  try clear hcz36_1
  try clear hcz36_2
  try clear hcz38_0
  try clear hcz38_1
  try clear hcz38_2
  try clear hcz41_0
  try clear hcz41_1
  try clear hcz41_2
  try clear hfz15_0
  try clear hfz15_1
  try clear hfz15_2
  try clear hfz17_0
  try clear hfz17_1
  try clear hfz17_2
  try clear hfz19_0
  try clear hfz19_1
  try clear hfz19_2
  try clear hfz20_0
  try clear hfz20_1
  try clear hfz20_2
  try clear hfz22_0
  try clear hfz22_1
  try clear hfz22_2
  try clear hfz24_0
  try clear hfz24_1
  try clear hfz24_2
  try clear hfz26_0
  try clear hfz26_1
  try clear hfz26_2
  try clear hfz27_0
  try clear hfz27_1
  try clear hfz27_2
  try clear hfz29_0
  try clear hfz29_1
  try clear hfz29_2
  try clear hfz31_0
  try clear hfz31_1
  try clear hfz31_2
  try clear hfz33_0
  try clear hfz33_1
  try clear hfz33_2
  try clear hfz34_0
  try clear hfz34_1
  try clear hfz34_2
  try clear hfz36_0
  try clear hfz36_1
  try clear hfz36_2
  try clear hfz38_0
  try clear hfz38_1
  try clear hfz38_2
  try clear hfz41_0
  try clear hfz41_1
  try clear hfz41_2
  obtain ⟨kq, x34_3, rfl, HA, HJ3, BK274, BK275, HB⟩ := hcut
  cases kq with
  | zero => exact absurd HA.out (by simp [spec_l10Pair.j0])
  | succ kj3 =>
   have H := HA.out
   clear HA
   simp only [spec_l10Pair.j0] at H
   by_cases c43 : x34_3 = true
   ·subst c43
    have H1 : (some false) = some r := by rw [if_pos rfl] at H; exact H
    clear H
    have H := H1
    clear H1
    obtain rfl := Option.some.inj H
    go_wp2
    repeat (go_quiet (fail); try go_wp2)
    go_ret
    exact ⟨by first | rfl | (simp [errW_none, errW_some] <;> rfl) | (simp [*, errW_none, errW_some] <;> rfl), bB_ HB⟩
   ·replace c43 := Bool.eq_false_iff.mpr c43
    subst c43
    have H1 : (spec_l10Pair.l0 kj3 0 a0_0 a0_1 l0_2 a1_0 a1_1 l1_2) = some r := by rw [if_neg (show ¬ (false = true) by decide)] at H; exact H
    clear H
    have H := H1
    clear H1
    have H' := zA H
    clear H
    go_wp2
    repeat (go_quiet (fail); try go_wp2)
    go_loopg [7] kj3 (fun kq v7 w' => ∃ (x7_2 : Int), v7 = .int .i64 x7_2 ∧ Aside0 (spec_l10Pair.l0 kq x7_2 a0_0 a0_1 l0_2 a1_0 a1_1 l1_2 = some r) ∧ Aside0 (kq ≤ kj3) ∧ Aside0 (w'.heap[gb274]? = some (.cells #[.int .i64 a0_0, .int .i64 a0_1, (.slice A0_2 l0_2.length c0_2)] 26 (0, 0))) ∧ Aside0 (w'.heap[gb275]? = some (.cells #[.int .i64 a1_0, .int .i64 a1_1, (.slice A1_2 l1_2.length c1_2)] 26 (0, 0))) ∧ Aside0 (Below w.heap.size w w'))
    case atStart => exact ⟨(0), (by first | rfl | (simp; done) | (simp [*]; done)), H', ⟨Nat.le_refl _⟩, ⟨bA_ BK274⟩, ⟨bA_ BK275⟩, ⟨bB_ HB⟩⟩
    case round =>
     clear H'
     try clear c1
     try clear c2
     try clear p2
     try clear c3
     try clear c4
     try clear c5
     try clear c8
     try clear c10
     try clear c11
     try clear c11b0
     try clear c11b1
     try clear c12
     try clear c12b0
     try clear c12b1
     try clear c14
     try clear c21
     try clear c28
     try clear c35
     try clear c40
     try clear c43
     try clear hcz15_0
     try clear hcz15_1
     try clear hcz15_2
     try clear hcz17_0
     try clear hcz17_1
     try clear hcz17_2
     try clear hcz19_0
     try clear hcz19_1
     try clear hcz19_2
     try clear hcz20_0
     try clear hcz20_1
     try clear hcz20_2
     try clear hcz22_0
     try clear hcz22_1
     try clear hcz22_2
     try clear hcz24_0
     try clear hcz24_1
     try clear hcz24_2
     try clear hcz26_0
     try clear hcz26_1
     try clear hcz26_2
     try clear hcz27_0
     try clear hcz27_1
     try clear hcz27_2
     try clear hcz29_0
     try clear hcz29_1
     try clear hcz29_2
     try clear hcz31_0
     try clear hcz31_1
     try clear hcz31_2
     try clear hcz33_0
     try clear hcz33_1
     try clear hcz33_2
     try clear hcz34_0
     try clear hcz34_1
     try clear hcz34_2
     try clear hcz36_0
     try clear hcz36_1
     try clear hcz36_2
     try clear hcz38_0
     try clear hcz38_1
     try clear hcz38_2
     try clear hcz41_0
     try clear hcz41_1
     try clear hcz41_2
     try clear hfz15_0
     try clear hfz15_1
     try clear hfz15_2
     try clear hfz17_0
     try clear hfz17_1
     try clear hfz17_2
     try clear hfz19_0
     try clear hfz19_1
     try clear hfz19_2
     try clear hfz20_0
     try clear hfz20_1
     try clear hfz20_2
     try clear hfz22_0
     try clear hfz22_1
     try clear hfz22_2
     try clear hfz24_0
     try clear hfz24_1
     try clear hfz24_2
     try clear hfz26_0
     try clear hfz26_1
     try clear hfz26_2
     try clear hfz27_0
     try clear hfz27_1
     try clear hfz27_2
     try clear hfz29_0
     try clear hfz29_1
     try clear hfz29_2
     try clear hfz31_0
     try clear hfz31_1
     try clear hfz31_2
     try clear hfz33_0
     try clear hfz33_1
     try clear hfz33_2
     try clear hfz34_0
     try clear hfz34_1
     try clear hfz34_2
     try clear hfz36_0
     try clear hfz36_1
     try clear hfz36_2
     try clear hfz38_0
     try clear hfz38_1
     try clear hfz38_2
     try clear hfz41_0
     try clear hfz41_1
     try clear hfz41_2
     try clear p2
     obtain ⟨x7_2, rfl, HA, HK2, BK274, BK275, HB⟩ := hrel
     cases gk with
     | zero => exact absurd HA.out (by simp [spec_l10Pair.l0])
     | succ k2 =>
      have H := HA.out
      clear HA
      simp only [spec_l10Pair.l0] at H
      by_cases c44 : x7_2 < (l1_2.length : Int)
      ·rw [if_pos c44] at H
       have c44b0 : decide (x7_2 < (l1_2.length : Int)) = true := decide_eq_true c44
       clear c44
       by_cases c45 : 0 ≤ x7_2
       ·rw [if_pos c45] at H
        have c45b0 : decide (0 ≤ x7_2) = true := decide_eq_true c45
        clear c45
        by_cases c46 : x7_2 < (l0_2.length : Int)
        ·rw [if_pos c46] at H
         have c46b0 : decide (x7_2 < (l0_2.length : Int)) = true := decide_eq_true c46
         clear c46
         by_cases c47 : (rd l1_2 x7_2) > (rd l0_2 x7_2)
         ·rw [if_pos c47] at H
          have c47b0 : decide ((rd l0_2 x7_2) < (rd l1_2 x7_2)) = true := decide_eq_true c47
          clear c47
          obtain rfl := Option.some.inj H
          have hnb48 := NB275_274.out
          have hnc48 := NB274_275.out
          have hcz49_0 : wr.cell? ⟨gb275, 0, none⟩ = some (.int .i64 a1_0) := (blk_cell BK275.out 0).trans rfl
          have hcz49_1 : wr.cell? ⟨gb275, 1, none⟩ = some (.int .i64 a1_1) := (blk_cell BK275.out 1).trans rfl
          have hcz49_2 : wr.cell? ⟨gb275, 2, none⟩ = some (.slice A1_2 l1_2.length c1_2) := (blk_cell BK275.out 2).trans rfl
          have hfz49_0 := blk_frozen BK275.out 0
          have hfz49_1 := blk_frozen BK275.out 1
          have hfz49_2 := blk_frozen BK275.out 2
          have p279 : 0 ≤ (x7_2 : Int) := of_decide_eq_true (by first | (with_reducible assumption) | assumption)
          have q279 : x7_2 < (l1_2.length : Int) := of_decide_eq_true (by first | (with_reducible assumption) | assumption)
          obtain ⟨ad279, e279, hx279_0⟩ := Kd.at_int HR1_2.out x7_2 p279 q279
          cases e279
          replace hx279_0 := hb_ HB.out hx279_0
          replace p279 := eq_true p279
          replace q279 := eq_true q279
          have hcz50_0 : wr.cell? ⟨gb274, 0, none⟩ = some (.int .i64 a0_0) := (blk_cell BK274.out 0).trans rfl
          have hcz50_1 : wr.cell? ⟨gb274, 1, none⟩ = some (.int .i64 a0_1) := (blk_cell BK274.out 1).trans rfl
          have hcz50_2 : wr.cell? ⟨gb274, 2, none⟩ = some (.slice A0_2 l0_2.length c0_2) := (blk_cell BK274.out 2).trans rfl
          have hfz50_0 := blk_frozen BK274.out 0
          have hfz50_1 := blk_frozen BK274.out 1
          have hfz50_2 := blk_frozen BK274.out 2
          have p280 : 0 ≤ (x7_2 : Int) := of_decide_eq_true (by first | (with_reducible assumption) | assumption)
          have q280 : x7_2 < (l0_2.length : Int) := of_decide_eq_true (by first | (with_reducible assumption) | assumption)
          obtain ⟨ad280, e280, hx280_0⟩ := Kd.at_int HR0_2.out x7_2 p280 q280
          cases e280
          replace hx280_0 := hb_ HB.out hx280_0
          replace p280 := eq_true p280
          replace q280 := eq_true q280
          go_wp2
          repeat (go_quiet (fail); try go_wp2)
          go_ret
          exact ⟨by first | rfl | (simp [errW_none, errW_some] <;> rfl) | (simp [*, errW_none, errW_some] <;> rfl), bB_ HB⟩
         ·rw [if_neg c47] at H
          have c47b0 : decide ((rd l0_2 x7_2) < (rd l1_2 x7_2)) = false := decide_eq_false c47
          clear c47
          have H' := zA H
          clear H
          have hnb51 := NB275_274.out
          have hnc51 := NB274_275.out
          have hcz52_0 : wr.cell? ⟨gb275, 0, none⟩ = some (.int .i64 a1_0) := (blk_cell BK275.out 0).trans rfl
          have hcz52_1 : wr.cell? ⟨gb275, 1, none⟩ = some (.int .i64 a1_1) := (blk_cell BK275.out 1).trans rfl
          have hcz52_2 : wr.cell? ⟨gb275, 2, none⟩ = some (.slice A1_2 l1_2.length c1_2) := (blk_cell BK275.out 2).trans rfl
          have hfz52_0 := blk_frozen BK275.out 0
          have hfz52_1 := blk_frozen BK275.out 1
          have hfz52_2 := blk_frozen BK275.out 2
          have p279 : 0 ≤ (x7_2 : Int) := of_decide_eq_true (by first | (with_reducible assumption) | assumption)
          have q279 : x7_2 < (l1_2.length : Int) := of_decide_eq_true (by first | (with_reducible assumption) | assumption)
          obtain ⟨ad279, e279, hx279_0⟩ := Kd.at_int HR1_2.out x7_2 p279 q279
          cases e279
          replace hx279_0 := hb_ HB.out hx279_0
          replace p279 := eq_true p279
          replace q279 := eq_true q279
          have hcz53_0 : wr.cell? ⟨gb274, 0, none⟩ = some (.int .i64 a0_0) := (blk_cell BK274.out 0).trans rfl
          have hcz53_1 : wr.cell? ⟨gb274, 1, none⟩ = some (.int .i64 a0_1) := (blk_cell BK274.out 1).trans rfl
          have hcz53_2 : wr.cell? ⟨gb274, 2, none⟩ = some (.slice A0_2 l0_2.length c0_2) := (blk_cell BK274.out 2).trans rfl
          have hfz53_0 := blk_frozen BK274.out 0
          have hfz53_1 := blk_frozen BK274.out 1
          have hfz53_2 := blk_frozen BK274.out 2
          have p280 : 0 ≤ (x7_2 : Int) := of_decide_eq_true (by first | (with_reducible assumption) | assumption)
          have q280 : x7_2 < (l0_2.length : Int) := of_decide_eq_true (by first | (with_reducible assumption) | assumption)
          obtain ⟨ad280, e280, hx280_0⟩ := Kd.at_int HR0_2.out x7_2 p280 q280
          cases e280
          replace hx280_0 := hb_ HB.out hx280_0
          replace p280 := eq_true p280
          replace q280 := eq_true q280
          go_wp2
          repeat (go_quiet (fail); try go_wp2)
          go_roundg k2
          case measure => have := HJ3.out; have := HK2.out; omega
          case rel => exact ⟨(wrap64 (x7_2 + 1)), (by first | rfl | (simp; done) | (simp [*]; done)), H', ⟨by have := HJ3.out; have := HK2.out; omega⟩, ⟨bA_ BK274⟩, ⟨bA_ BK275⟩, ⟨bB_ HB⟩⟩
        ·rw [if_neg c46] at H
         exact absurd H (by simp)
       ·rw [if_neg c45] at H
        exact absurd H (by simp)
      ·rw [if_neg c44] at H
       have c44b0 : decide (x7_2 < (l1_2.length : Int)) = false := decide_eq_false c44
       clear c44
       obtain rfl := Option.some.inj H
       have hnb54 := NB275_274.out
       have hnc54 := NB274_275.out
       have hcz55_0 : wr.cell? ⟨gb275, 0, none⟩ = some (.int .i64 a1_0) := (blk_cell BK275.out 0).trans rfl
       have hcz55_1 : wr.cell? ⟨gb275, 1, none⟩ = some (.int .i64 a1_1) := (blk_cell BK275.out 1).trans rfl
       have hcz55_2 : wr.cell? ⟨gb275, 2, none⟩ = some (.slice A1_2 l1_2.length c1_2) := (blk_cell BK275.out 2).trans rfl
       have hfz55_0 := blk_frozen BK275.out 0
       have hfz55_1 := blk_frozen BK275.out 1
       have hfz55_2 := blk_frozen BK275.out 2
       go_wp2
       repeat (go_quiet (fail); try go_wp2)
       go_ret
       exact ⟨by first | rfl | (simp [errW_none, errW_some] <;> rfl) | (simp [*, errW_none, errW_some] <;> rfl), bB_ HB⟩

def spec_JobOf.l0 : Nat → Int → List Int → Int → Int → Option (Int × Int × List Int × Int × Int × List Int × Int)
 | 0, _, _, _, _ => none
 | k + 1, x6, x287000, x287001, x287002 => if x6 < 3 then ((spec_l00Src_job.f k x287000 x287001 x287002).bind fun bt293 => ((spec_l10Pair.f k bt293.1 bt293.2.1 bt293.2.2.1 bt293.2.2.2.1 bt293.2.2.2.2.1 bt293.2.2.2.2.2.1 bt293.2.2.2.2.2.2.1).bind fun t308 => (if t308 = true then (some (bt293.1, bt293.2.1, bt293.2.2.1, bt293.2.2.2.1, bt293.2.2.2.2.1, bt293.2.2.2.2.2.1, bt293.2.2.2.2.2.2.1)) else (spec_JobOf.l0 k (wrap64 (x6 + 1)) x287000 bt293.2.2.2.2.2.2.2.1 bt293.2.2.2.2.2.2.2.2)))) else (some (2, 1, (([5, 5] : List Int)), 2, 1, (([1, 3] : List Int)), 0))
def spec_JobOf.f (k : Nat) (l0 : List Int) : Option (Int × Int × List Int × Int × Int × List Int × Int) := (spec_l00Source.f l0).bind fun bt283 => (spec_JobOf.l0 k 0 bt283.1 bt283.2.1 bt283.2.2)
theorem spec_JobOf.mono_l : ∀ k, (∀ y0 y1 y2 y3, LeO (spec_JobOf.l0 k y0 y1 y2 y3) (spec_JobOf.l0 (k + 1) y0 y1 y2 y3))
 | 0 => fun _ _ _ _ r h => by simp [spec_JobOf.l0] at h
 | k + 1 => by
  have ih0 := spec_JobOf.mono_l k
  ·intro y0 y1 y2 y3
   unfold spec_JobOf.l0
   repeat' first
   | (with_reducible exact ih0 _ _ _ _)
   | (with_reducible exact spec_l00Src_job.mono _ _ _ _)
   | (with_reducible exact spec_l10Pair.mono _ _ _ _ _ _ _ _)
   | (with_reducible exact LeO.refl _)
   | (with_reducible exact LeO.none _)
   | (with_reducible refine LeO.ite ?_ ?_)
   | (with_reducible refine LeO.bind ?_ (fun _ => ?_))
   | exact ih0 _ _ _ _
   | exact spec_l00Src_job.mono _ _ _ _
   | exact spec_l10Pair.mono _ _ _ _ _ _ _ _
   | exact LeO.none _
   | refine LeO.ite ?_ ?_
   | refine LeO.bind ?_ (fun _ => ?_)
theorem spec_JobOf.mono : ∀ a0 k, LeO (spec_JobOf.f k a0) (spec_JobOf.f (k + 1) a0) := by
 intro a0 k
 have ih0 := spec_JobOf.mono_l k
 unfold spec_JobOf.f
 repeat' first
   | (with_reducible exact ih0 _ _ _ _)
   | (with_reducible exact spec_l00Src_job.mono _ _ _ _)
   | (with_reducible exact spec_l10Pair.mono _ _ _ _ _ _ _ _)
   | (with_reducible exact LeO.refl _)
   | (with_reducible exact LeO.none _)
   | (with_reducible refine LeO.ite ?_ ?_)
   | (with_reducible refine LeO.bind ?_ (fun _ => ?_))
   | exact ih0 _ _ _ _
   | exact spec_l00Src_job.mono _ _ _ _
   | exact spec_l10Pair.mono _ _ _ _ _ _ _ _
   | exact LeO.none _
   | refine LeO.ite ?_ ?_
   | refine LeO.bind ?_ (fun _ => ?_)
set_option maxHeartbeats 8000000 in
set_option maxRecDepth 100000 in
theorem spec_JobOf.calls (k : Nat) (A0 : Option Addr) (c0 : Nat) (l0 : List Int) (r1 : Int) (r2 : Int) (r3 : List Int) (r4 : Int) (r5 : Int) (r6 : List Int) (r7 : Int) (w : World) (hr0 : Kd.C (Kd.int .u8) w A0 l0.length l0) (hc0 : l0.length ≤ c0) (h : spec_JobOf.f k l0 = some (r1, r2, r3, r4, r5, r6, r7)) :
  Calls Try.prog 21 #[.slice A0 l0.length c0] w fun e w' => ∃ v2_ v5_ : Value, e = .returned (.tuple #[.agg #[.int .i64 r1, .int .i64 r2, v2_], .agg #[.int .i64 r4, .int .i64 r5, v5_], .int .i64 r7]) ∧ Kd.Q (Kd.int .i64) 3 w' w.heap.size (fun k_ => some k_ ≠ (v5_ : Value).ownBlock) v2_ r3 ∧ Kd.Q (Kd.int .i64) 3 w' w.heap.size (fun k_ => some k_ ≠ (v2_ : Value).ownBlock) v5_ r6 ∧ Below w.heap.size w w' := by
 have hu26 := Try.underlying26
 have HR0 := zA hr0
 have HC0 := zA hc0
 clear hr0 hc0
 have HB := zA (Below.refl w.heap.size w)
 have H : ((spec_l00Source.f l0).bind fun bt283 => (spec_JobOf.l0 k 0 bt283.1 bt283.2.1 bt283.2.2)) = some (r1, r2, r3, r4, r5, r6, r7) := h
 clear h
 replace H := Option.bind_eq_some_iff.mp H
 obtain ⟨⟨t283, t284, t285⟩, A20, H⟩ := H
 replace H : (spec_JobOf.l0 k 0 t283 t284 t285) = some (r1, r2, r3, r4, r5, r6, r7) := H
 have A2 := zA A20
 clear A20
 have H' := zA H
 clear H
 go_enter Try.func21, Try.ntmps21
 go_wp2_with (first | ((with_reducible refine gate_dst (N := 2) rfl ?_); refine box_event ?hg (N := 2) ?hd (cs := #[.int .i64 0, .int .i64 0, .slice none 0 0]) (t := 26) ?hr ?_; (case hd => rfl); (case hg => rfl); (case hr => first | (go_simp; done) | (go_simp; rfl)); intro gb281 hg w3 hbox hb; have n0_ := zA (below_step (bB_ HB) hb); have n1_ := zA (hbox); have n2_ := zA ((by rw [hg]; exact (zT (bB_ HB)) : w.heap.size ≤ gb281)); have n3_ := zA ((by rw [hg]; exact (zT (bB_ HB)) : w.heap.size ≤ gb281)); clear HB; have HB := n0_; have BK281 := n1_; have GW281 := n2_; have GE281 := n3_; clear n0_ n1_ n2_ n3_; clear hb hbox hg) | ((with_reducible refine gate_dst (N := 3) rfl ?_); refine box_event ?hg (N := 3) ?hd (cs := #[.int .i64 0, .int .i64 0, .slice none 0 0]) (t := 26) ?hr ?_; (case hd => rfl); (case hg => rfl); (case hr => first | (go_simp; done) | (go_simp; rfl)); intro gb282 hg w4 hbox hb; have n0_ := zA (zU (g := gb281) (o := .cells #[.int .i64 0, .int .i64 0, .slice none 0 0] 26 (0, 0)) (bA_ BK281) hb); have n1_ := zA (below_step (bB_ HB) hb); have n2_ := zA (hbox); have n3_ := zA ((by rw [hg]; exact (zT (bB_ HB)) : w.heap.size ≤ gb282)); have n4_ := zA ((by rw [hg]; exact (zT (bB_ HB)) : w.heap.size ≤ gb282)); have n5_ := zA ((by rw [hg]; exact Nat.ne_of_lt (blk_lt (g := gb281) (o := .cells #[.int .i64 0, .int .i64 0, .slice none 0 0] 26 (0, 0)) (bA_ BK281)) : gb281 ≠ gb282)); have n6_ := zA ((by rw [hg]; exact Nat.ne_of_gt (blk_lt (g := gb281) (o := .cells #[.int .i64 0, .int .i64 0, .slice none 0 0] 26 (0, 0)) (bA_ BK281)) : gb282 ≠ gb281)); clear BK281; clear HB; have BK281 := n0_; have HB := n1_; have BK282 := n2_; have GW282 := n3_; have GE282 := n4_; have NB281_282 := n5_; have NB282_281 := n6_; clear n0_ n1_ n2_ n3_ n4_ n5_ n6_; clear hb hbox hg) | ((with_reducible refine gate_callee (f := 55) rfl ?_); refine goesL_ (some 11) rfl rfl Try.func55 (by kernel_rfl) rfl #[.slice A0 l0.length c0] rfl (by (try simp only [List.map_toArray, List.map_cons, List.map_nil]); first | done | rfl | (simp only [List.length_drop, List.length_take]; rfl)) ?_; (with_reducible refine (spec_l00Source.calls _ _ l0 t283 t284 t285 w _ ?side1 ?side2 ?side3 A2.out).mono ?_); (case side1 => repeat (first | (with_reducible first | exact HB.out | apply zR | apply zP | apply zQ | refine zS ?_ GE281.out | refine zS ?_ GE282.out) | exact HB.out)); (case side2 => exact HR0.out); (case side3 => exact HC0.out); rintro e w5 ⟨g286, rfl, hi, hb, hb2⟩; refine ⟨_, rfl, ?_⟩; have n0_ := zA (zU (g := gb281) (o := .cells #[.int .i64 0, .int .i64 0, .slice none 0 0] 26 (0, 0)) (bA_ BK281) hb2); have n1_ := zA (zU (g := gb282) (o := .cells #[.int .i64 0, .int .i64 0, .slice none 0 0] 26 (0, 0)) (bA_ BK282) hb2); have n2_ := zA (hb); have n3_ := zA (hi); have n4_ := zA (IsS90.ne_blk hi (zU (g := gb281) (o := .cells #[.int .i64 0, .int .i64 0, .slice none 0 0] 26 (0, 0)) (bA_ BK281) hb2) (by decide)); have n5_ := zA (Ne.symm (IsS90.ne_blk hi (zU (g := gb281) (o := .cells #[.int .i64 0, .int .i64 0, .slice none 0 0] 26 (0, 0)) (bA_ BK281) hb2) (by decide))); have n6_ := zA (IsS90.ne_blk hi (zU (g := gb282) (o := .cells #[.int .i64 0, .int .i64 0, .slice none 0 0] 26 (0, 0)) (bA_ BK282) hb2) (by decide)); have n7_ := zA (Ne.symm (IsS90.ne_blk hi (zU (g := gb282) (o := .cells #[.int .i64 0, .int .i64 0, .slice none 0 0] 26 (0, 0)) (bA_ BK282) hb2) (by decide))); clear BK281; clear BK282; clear HB; have BK281 := n0_; have BK282 := n1_; have HB := n2_; have HI286 := n3_; have NB286_281 := n4_; have NB281_286 := n5_; have NB286_282 := n6_; have NB282_286 := n7_; clear n0_ n1_ n2_ n3_ n4_ n5_ n6_ n7_; (try clear hb); (try clear hb2); (try clear hk); (try clear hi)))
 go_loopg [6] k (fun kq v6 w' => ∃ (x6_1 : Int) (x282000_1 : Int) (x282001_1 : Int) (x283000_1 : Int) (x283001_1 : Int) (x287001_1 : Int) (x287002_1 : Int), v6 = .int .i64 x6_1 ∧ Aside0 (spec_JobOf.l0 kq x6_1 t283 x287001_1 x287002_1 = some (r1, r2, r3, r4, r5, r6, r7)) ∧ Aside0 (kq ≤ k) ∧ Aside0 (w'.heap[gb281]? = some (.cells #[.int .i64 x282000_1, .int .i64 x282001_1, (.slice none 0 0)] 26 (0, 0))) ∧ Aside0 (w'.heap[gb282]? = some (.cells #[.int .i64 x283000_1, .int .i64 x283001_1, (.slice none 0 0)] 26 (0, 0))) ∧ Aside0 (IsS90 w w' g286 t283 x287001_1 x287002_1) ∧ Aside0 (Below w.heap.size w w'))
 case atStart => exact ⟨(0), (0), (0), (0), (0), (t284), (t285), (by first | rfl | (simp; done) | (simp [*]; done)), H', ⟨Nat.le_refl _⟩, ⟨bA_ BK281⟩, ⟨bA_ BK282⟩, ⟨by repeat (first | (with_reducible first | exact HI286.out | apply IsS90.alloc | apply IsS90.drewN | apply IsS90.drew | apply IsS90.set_1 | apply IsS90.set_2 | refine IsS90.far ?_ NB286_281.out _ | refine IsS90.far ?_ NB286_282.out _) | exact HI286.out)⟩, ⟨by repeat (first | (with_reducible first | exact HB.out | apply zR | apply zP | apply zQ | refine zS ?_ (IsS90.ge HI286.out) | refine zS ?_ GE281.out | refine zS ?_ GE282.out) | exact HB.out)⟩⟩
 case round =>
  clear H'
  try clear c2
  try clear p2
  try clear c5
  obtain ⟨x6_1, x282000_1, x282001_1, x283000_1, x283001_1, x287001_1, x287002_1, rfl, HA, HK1, BK281, BK282, HI286, HB⟩ := hrel
  cases gk with
  | zero => exact absurd HA.out (by simp [spec_JobOf.l0])
  | succ k1 =>
   have H := HA.out
   clear HA
   simp only [spec_JobOf.l0] at H
   by_cases c6 : x6_1 < 3
   ·rw [if_pos c6] at H
    have c6b0 : decide (x6_1 < 3) = true := decide_eq_true c6
    clear c6
    replace H := Option.bind_eq_some_iff.mp H
    obtain ⟨⟨t293, t294, t295, t298, t299, t300, t303, t304, t305⟩, A70, H⟩ := H
    replace H : ((spec_l10Pair.f k1 t293 t294 t295 t298 t299 t300 t303).bind fun t308 => (if t308 = true then (some (t293, t294, t295, t298, t299, t300, t303)) else (spec_JobOf.l0 k1 (wrap64 (x6_1 + 1)) t283 t304 t305))) = some (r1, r2, r3, r4, r5, r6, r7) := H
    have A7 := zA A70
    clear A70
    replace H := Option.bind_eq_some_iff.mp H
    obtain ⟨t308, A80, H⟩ := H
    replace H : (if t308 = true then (some (t293, t294, t295, t298, t299, t300, t303)) else (spec_JobOf.l0 k1 (wrap64 (x6_1 + 1)) t283 t304 t305)) = some (r1, r2, r3, r4, r5, r6, r7) := H
    have A8 := zA A80
    clear A80
    by_cases c9 : t308 = true
    ·subst c9
     have H1 : (some (t293, t294, t295, t298, t299, t300, t303)) = some (r1, r2, r3, r4, r5, r6, r7) := by rw [if_pos rfl] at H; exact H
     clear H
     have H := H1
     clear H1
     simp only [Option.some.injEq, Prod.mk.injEq] at H
     obtain ⟨rfl, rfl, rfl, rfl, rfl, rfl, rfl⟩ := H
     try go_wp2_with (first | ((with_reducible refine gate_callee (f := 56) rfl ?_); refine goesL_ (some 18) rfl rfl Try.func56 (by kernel_rfl) rfl #[.pointer (some ⟨g286, 0, none⟩)] rfl (by (try simp only [List.map_toArray, List.map_cons, List.map_nil]); first | done | rfl | (simp only [List.length_drop, List.length_take]; rfl)) ?_; (with_reducible refine (spec_l00Src_job.calls k1 g286 t283 x287001_1 x287002_1 t293 t294 t295 t298 t299 t300 t303 t304 t305 w _ ?side1 ?side2 A7.out).mono ?_); (case side1 => repeat (first | (with_reducible first | exact HI286.out | apply IsS90.alloc | apply IsS90.drewN | apply IsS90.drew | apply IsS90.set_1 | apply IsS90.set_2 | refine IsS90.far ?_ NB286_281.out _ | refine IsS90.far ?_ NB286_282.out _) | exact HI286.out)); (case side2 => repeat (first | (with_reducible first | exact HB.out | apply zR | apply zP | apply zQ | refine zS ?_ (IsS90.ge HI286.out) | refine zS ?_ GE281.out | refine zS ?_ GE282.out) | exact HB.out)); rintro e w10 ⟨v296, v301, rfl, ho0, ho1, hi, hb, hk⟩; refine ⟨_, rfl, ?_⟩; have n0_ := zA (KeepBut.blk hk (g' := gb281) (o := .cells #[.int .i64 x282000_1, .int .i64 x282001_1, .slice none 0 0] 26 (0, 0)) (bA_ BK281) NB281_286.out (by simp)); have n1_ := zA (KeepBut.blk hk (g' := gb282) (o := .cells #[.int .i64 x283000_1, .int .i64 x283001_1, .slice none 0 0] 26 (0, 0)) (bA_ BK282) NB282_286.out (by simp)); have n2_ := zA (Kd.Q_lower ho0 (zT (by repeat (first | (with_reducible first | exact HB.out | apply zR | apply zP | apply zQ | refine zS ?_ (IsS90.ge HI286.out) | refine zS ?_ GE281.out | refine zS ?_ GE282.out) | exact HB.out)))); have n3_ := zA (Kd.Q_lower ho1 (zT (by repeat (first | (with_reducible first | exact HB.out | apply zR | apply zP | apply zQ | refine zS ?_ (IsS90.ge HI286.out) | refine zS ?_ GE281.out | refine zS ?_ GE282.out) | exact HB.out)))); have n4_ := zA (hb); have n5_ := zA (hi); clear BK281; clear BK282; clear HB; clear HI286; have BK281 := n0_; have BK282 := n1_; have HO297 := n2_; have HO302 := n3_; have HB := n4_; have HI286 := n5_; clear n0_ n1_ n2_ n3_ n4_ n5_; (try clear hb); (try clear hb2); (try clear hk); (try clear hi); (try clear ho0); (try clear ho1)) | ((with_reducible refine gate_dst (N := 7) rfl ?_); refine box_event ?hg (N := 7) ?hd (cs := #[.int .i64 0, .int .i64 0, .slice none 0 0]) (t := 26) ?hr ?_; (case hd => rfl); (case hg => rfl); (case hr => first | (go_simp; done) | (go_simp; rfl)); intro gb306 hg w11 hbox hb; have n0_ := zA (Kd.Q_below (by (with_reducible repeat (first | apply Kd.Q_alloc | apply Kd.Q_drewN | apply Kd.Q_drew)); exact HO297.out) hb); have n1_ := zA (Kd.Q_below (by (with_reducible repeat (first | apply Kd.Q_alloc | apply Kd.Q_drewN | apply Kd.Q_drew)); exact HO302.out) hb); have n2_ := zA (zU (g := gb281) (o := .cells #[.int .i64 x282000_1, .int .i64 x282001_1, .slice none 0 0] 26 (0, 0)) (bA_ BK281) hb); have n3_ := zA (zU (g := gb282) (o := .cells #[.int .i64 x283000_1, .int .i64 x283001_1, .slice none 0 0] 26 (0, 0)) (bA_ BK282) hb); have n4_ := zA (IsS90.below (by repeat (first | (with_reducible first | exact HI286.out | apply IsS90.alloc | apply IsS90.drewN | apply IsS90.drew | apply IsS90.set_1 | apply IsS90.set_2 | refine IsS90.far ?_ NB286_281.out _ | refine IsS90.far ?_ NB286_282.out _) | exact HI286.out)) hb); have n5_ := zA (below_step (by repeat (first | (with_reducible first | exact HB.out | apply zR | apply zP | apply zQ | refine zS ?_ (IsS90.ge HI286.out) | refine zS ?_ GE281.out | refine zS ?_ GE282.out) | exact HB.out)) hb); have n6_ := zA (hbox); have n7_ := zA ((by rw [hg]; exact (zT (by repeat (first | (with_reducible first | exact HB.out | apply zR | apply zP | apply zQ | refine zS ?_ (IsS90.ge HI286.out) | refine zS ?_ GE281.out | refine zS ?_ GE282.out) | exact HB.out))) : w.heap.size ≤ gb306)); have n8_ := zA ((by rw [hg]; exact (zT (by repeat (first | (with_reducible first | exact HB.out | apply zR | apply zP | apply zQ | refine zS ?_ (IsS90.ge HI286.out) | refine zS ?_ GE281.out | refine zS ?_ GE282.out) | exact HB.out))) : w.heap.size ≤ gb306)); have n9_ := zA ((by rw [hg]; exact Nat.ne_of_lt (blk_lt (g := gb281) (o := .cells #[.int .i64 x282000_1, .int .i64 x282001_1, .slice none 0 0] 26 (0, 0)) (bA_ BK281)) : gb281 ≠ gb306)); have n10_ := zA ((by rw [hg]; exact Nat.ne_of_gt (blk_lt (g := gb281) (o := .cells #[.int .i64 x282000_1, .int .i64 x282001_1, .slice none 0 0] 26 (0, 0)) (bA_ BK281)) : gb306 ≠ gb281)); have n11_ := zA ((by rw [hg]; exact Nat.ne_of_lt (blk_lt (g := gb282) (o := .cells #[.int .i64 x283000_1, .int .i64 x283001_1, .slice none 0 0] 26 (0, 0)) (bA_ BK282)) : gb282 ≠ gb306)); have n12_ := zA ((by rw [hg]; exact Nat.ne_of_gt (blk_lt (g := gb282) (o := .cells #[.int .i64 x283000_1, .int .i64 x283001_1, .slice none 0 0] 26 (0, 0)) (bA_ BK282)) : gb306 ≠ gb282)); have n13_ := zA ((by rw [hg]; exact Nat.ne_of_lt (IsS90.lt (show IsS90 w _ g286 t283 t304 t305 from by repeat (first | (with_reducible first | exact HI286.out | apply IsS90.alloc | apply IsS90.drewN | apply IsS90.drew | apply IsS90.set_1 | apply IsS90.set_2 | refine IsS90.far ?_ NB286_281.out _ | refine IsS90.far ?_ NB286_282.out _) | exact HI286.out))) : g286 ≠ gb306)); have n14_ := zA ((by rw [hg]; exact Nat.ne_of_gt (IsS90.lt (show IsS90 w _ g286 t283 t304 t305 from by repeat (first | (with_reducible first | exact HI286.out | apply IsS90.alloc | apply IsS90.drewN | apply IsS90.drew | apply IsS90.set_1 | apply IsS90.set_2 | refine IsS90.far ?_ NB286_281.out _ | refine IsS90.far ?_ NB286_282.out _) | exact HI286.out))) : gb306 ≠ g286)); clear HO297; clear HO302; clear BK281; clear BK282; clear HI286; clear HB; have HO297 := n0_; have HO302 := n1_; have BK281 := n2_; have BK282 := n3_; have HI286 := n4_; have HB := n5_; have BK306 := n6_; have GW306 := n7_; have GE306 := n8_; have NB281_306 := n9_; have NB306_281 := n10_; have NB282_306 := n11_; have NB306_282 := n12_; have NB286_306 := n13_; have NB306_286 := n14_; clear n0_ n1_ n2_ n3_ n4_ n5_ n6_ n7_ n8_ n9_ n10_ n11_ n12_ n13_ n14_; clear hb hbox hg) | ((with_reducible refine gate_dst (N := 8) rfl ?_); refine box_event ?hg (N := 8) ?hd (cs := #[.int .i64 0, .int .i64 0, .slice none 0 0]) (t := 26) ?hr ?_; (case hd => rfl); (case hg => rfl); (case hr => first | (go_simp; done) | (go_simp; rfl)); intro gb307 hg w12 hbox hb; have n0_ := zA (Kd.Q_below (by (with_reducible repeat (first | apply Kd.Q_alloc | apply Kd.Q_drewN | apply Kd.Q_drew)); exact HO297.out) hb); have n1_ := zA (Kd.Q_below (by (with_reducible repeat (first | apply Kd.Q_alloc | apply Kd.Q_drewN | apply Kd.Q_drew)); exact HO302.out) hb); have n2_ := zA (zU (g := gb281) (o := .cells #[.int .i64 x282000_1, .int .i64 x282001_1, .slice none 0 0] 26 (0, 0)) (bA_ BK281) hb); have n3_ := zA (zU (g := gb282) (o := .cells #[.int .i64 x283000_1, .int .i64 x283001_1, .slice none 0 0] 26 (0, 0)) (bA_ BK282) hb); have n4_ := zA (IsS90.below (by repeat (first | (with_reducible first | exact HI286.out | apply IsS90.alloc | apply IsS90.drewN | apply IsS90.drew | apply IsS90.set_1 | apply IsS90.set_2 | refine IsS90.far ?_ NB286_281.out _ | refine IsS90.far ?_ NB286_282.out _ | refine IsS90.far ?_ NB286_306.out _) | exact HI286.out)) hb); have n5_ := zA (zU (g := gb306) (o := .cells #[.int .i64 0, .int .i64 0, .slice none 0 0] 26 (0, 0)) (bA_ BK306) hb); have n6_ := zA (below_step (by repeat (first | (with_reducible first | exact HB.out | apply zR | apply zP | apply zQ | refine zS ?_ (IsS90.ge HI286.out) | refine zS ?_ GE281.out | refine zS ?_ GE282.out | refine zS ?_ GE306.out) | exact HB.out)) hb); have n7_ := zA (hbox); have n8_ := zA ((by rw [hg]; exact (zT (by repeat (first | (with_reducible first | exact HB.out | apply zR | apply zP | apply zQ | refine zS ?_ (IsS90.ge HI286.out) | refine zS ?_ GE281.out | refine zS ?_ GE282.out | refine zS ?_ GE306.out) | exact HB.out))) : w.heap.size ≤ gb307)); have n9_ := zA ((by rw [hg]; exact (zT (by repeat (first | (with_reducible first | exact HB.out | apply zR | apply zP | apply zQ | refine zS ?_ (IsS90.ge HI286.out) | refine zS ?_ GE281.out | refine zS ?_ GE282.out | refine zS ?_ GE306.out) | exact HB.out))) : w.heap.size ≤ gb307)); have n10_ := zA ((by rw [hg]; exact Nat.ne_of_lt (blk_lt (g := gb281) (o := .cells #[.int .i64 x282000_1, .int .i64 x282001_1, .slice none 0 0] 26 (0, 0)) (bA_ BK281)) : gb281 ≠ gb307)); have n11_ := zA ((by rw [hg]; exact Nat.ne_of_gt (blk_lt (g := gb281) (o := .cells #[.int .i64 x282000_1, .int .i64 x282001_1, .slice none 0 0] 26 (0, 0)) (bA_ BK281)) : gb307 ≠ gb281)); have n12_ := zA ((by rw [hg]; exact Nat.ne_of_lt (blk_lt (g := gb282) (o := .cells #[.int .i64 x283000_1, .int .i64 x283001_1, .slice none 0 0] 26 (0, 0)) (bA_ BK282)) : gb282 ≠ gb307)); have n13_ := zA ((by rw [hg]; exact Nat.ne_of_gt (blk_lt (g := gb282) (o := .cells #[.int .i64 x283000_1, .int .i64 x283001_1, .slice none 0 0] 26 (0, 0)) (bA_ BK282)) : gb307 ≠ gb282)); have n14_ := zA ((by rw [hg]; exact Nat.ne_of_lt (blk_lt (g := gb306) (o := .cells #[.int .i64 0, .int .i64 0, .slice none 0 0] 26 (0, 0)) (bA_ BK306)) : gb306 ≠ gb307)); have n15_ := zA ((by rw [hg]; exact Nat.ne_of_gt (blk_lt (g := gb306) (o := .cells #[.int .i64 0, .int .i64 0, .slice none 0 0] 26 (0, 0)) (bA_ BK306)) : gb307 ≠ gb306)); have n16_ := zA ((by rw [hg]; exact Nat.ne_of_lt (IsS90.lt (show IsS90 w _ g286 t283 t304 t305 from by repeat (first | (with_reducible first | exact HI286.out | apply IsS90.alloc | apply IsS90.drewN | apply IsS90.drew | apply IsS90.set_1 | apply IsS90.set_2 | refine IsS90.far ?_ NB286_281.out _ | refine IsS90.far ?_ NB286_282.out _ | refine IsS90.far ?_ NB286_306.out _) | exact HI286.out))) : g286 ≠ gb307)); have n17_ := zA ((by rw [hg]; exact Nat.ne_of_gt (IsS90.lt (show IsS90 w _ g286 t283 t304 t305 from by repeat (first | (with_reducible first | exact HI286.out | apply IsS90.alloc | apply IsS90.drewN | apply IsS90.drew | apply IsS90.set_1 | apply IsS90.set_2 | refine IsS90.far ?_ NB286_281.out _ | refine IsS90.far ?_ NB286_282.out _ | refine IsS90.far ?_ NB286_306.out _) | exact HI286.out))) : gb307 ≠ g286)); clear HO297; clear HO302; clear BK281; clear BK282; clear HI286; clear BK306; clear HB; have HO297 := n0_; have HO302 := n1_; have BK281 := n2_; have BK282 := n3_; have HI286 := n4_; have BK306 := n5_; have HB := n6_; have BK307 := n7_; have GW307 := n8_; have GE307 := n9_; have NB281_307 := n10_; have NB307_281 := n11_; have NB282_307 := n12_; have NB307_282 := n13_; have NB306_307 := n14_; have NB307_306 := n15_; have NB286_307 := n16_; have NB307_286 := n17_; clear n0_ n1_ n2_ n3_ n4_ n5_ n6_ n7_ n8_ n9_ n10_ n11_ n12_ n13_ n14_ n15_ n16_ n17_; clear hb hbox hg; have hnb13 := NB306_281.out; have hnc13 := NB281_306.out; have hnb14 := NB306_282.out; have hnc14 := NB282_306.out; have hnb15 := NB306_307.out; have hnc15 := NB307_306.out; have hnb16 := NB306_286.out; have hnc16 := NB286_306.out; have hcz17_0 : w12.cell? ⟨gb306, 0, none⟩ = some (.int .i64 0) := (blk_cell BK306.out 0).trans rfl; have hcz17_1 : w12.cell? ⟨gb306, 1, none⟩ = some (.int .i64 0) := (blk_cell BK306.out 1).trans rfl; have hcz17_2 : w12.cell? ⟨gb306, 2, none⟩ = some (.slice none 0 0) := (blk_cell BK306.out 2).trans rfl; have hfz17_0 := blk_frozen BK306.out 0; have hfz17_1 := blk_frozen BK306.out 1; have hfz17_2 := blk_frozen BK306.out 2; obtain ⟨Ao18, co18, eo18, _⟩ := Kd.Q_slice HO297.out; subst eo18; have hnb19 := NB307_281.out; have hnc19 := NB281_307.out; have hnb20 := NB307_282.out; have hnc20 := NB282_307.out; have hnb21 := NB307_286.out; have hnc21 := NB286_307.out; have hcz22_0 : w12.cell? ⟨gb307, 0, none⟩ = some (.int .i64 0) := (blk_cell BK307.out 0).trans rfl; have hcz22_1 : w12.cell? ⟨gb307, 1, none⟩ = some (.int .i64 0) := (blk_cell BK307.out 1).trans rfl; have hcz22_2 : w12.cell? ⟨gb307, 2, none⟩ = some (.slice none 0 0) := (blk_cell BK307.out 2).trans rfl; have hfz22_0 := blk_frozen BK307.out 0; have hfz22_1 := blk_frozen BK307.out 1; have hfz22_2 := blk_frozen BK307.out 2; obtain ⟨Ao23, co23, eo23, _⟩ := Kd.Q_slice HO302.out; subst eo23) | ((with_reducible refine gate_callee (f := 57) rfl ?_); refine goesL_ (some 25) rfl rfl Try.func57 (by kernel_rfl) rfl #[.agg #[.int .i64 t293, .int .i64 t294, .slice Ao18 t295.length co18], .agg #[.int .i64 t298, .int .i64 t299, .slice Ao23 t300.length co23], .int .i64 t303] rfl (by (try simp only [List.map_toArray, List.map_cons, List.map_nil]); first | done | rfl | (simp only [List.length_drop, List.length_take]; rfl)) ?_; (with_reducible refine (spec_l10Pair.calls k1 t293 t294 _ _ t295 t298 t299 _ _ t300 t303 true _ ?side1 ?side2 ?side3 ?side4 A8.out).mono ?_); (case side1 => refine (Kd.Q_reads' (e := 3) (base := w.heap.size) (ok := fun k_ => some k_ ≠ (.slice Ao23 t300.length co23 : Value).ownBlock) (n := t295.length) (c := co18) ?_).2.2; exact (by (with_reducible repeat (first | apply Kd.Q_alloc | apply Kd.Q_drewN | apply Kd.Q_drew)); exact (Kd.Q_mono (Kd.Q_mono (Kd.Q_far (p := ⟨gb307, 2, none⟩) (Kd.Q_far (p := ⟨gb307, 1, none⟩) (Kd.Q_far (p := ⟨gb307, 0, none⟩) (Kd.Q_far (p := ⟨gb306, 2, none⟩) (Kd.Q_far (p := ⟨gb306, 1, none⟩) (Kd.Q_far (p := ⟨gb306, 0, none⟩) (Kd.Q_types (Kd.Q_types HO297.out BK306.out (by decide)) BK307.out (by decide)) (fun _ hk => hk.1.2) (.int .i64 t293)) (fun _ hk => hk.1.2) (.int .i64 t294)) (fun _ hk => hk.1.2) (.slice Ao18 t295.length co18)) (fun _ hk => hk.2) (.int .i64 t298)) (fun _ hk => hk.2) (.int .i64 t299)) (fun _ hk => hk.2) (.slice Ao23 t300.length co23)) (fun _ h_ => h_.1)) (fun _ h_ => h_.1)))); (case side2 => exact (Kd.Q_reads' HO297.out).2.1); (case side3 => refine (Kd.Q_reads' (e := 3) (base := w.heap.size) (ok := fun k_ => some k_ ≠ (.slice Ao18 t295.length co18 : Value).ownBlock) (n := t300.length) (c := co23) ?_).2.2; exact (by (with_reducible repeat (first | apply Kd.Q_alloc | apply Kd.Q_drewN | apply Kd.Q_drew)); exact (Kd.Q_mono (Kd.Q_mono (Kd.Q_far (p := ⟨gb307, 2, none⟩) (Kd.Q_far (p := ⟨gb307, 1, none⟩) (Kd.Q_far (p := ⟨gb307, 0, none⟩) (Kd.Q_far (p := ⟨gb306, 2, none⟩) (Kd.Q_far (p := ⟨gb306, 1, none⟩) (Kd.Q_far (p := ⟨gb306, 0, none⟩) (Kd.Q_types (Kd.Q_types HO302.out BK306.out (by decide)) BK307.out (by decide)) (fun _ hk => hk.1.2) (.int .i64 t293)) (fun _ hk => hk.1.2) (.int .i64 t294)) (fun _ hk => hk.1.2) (.slice Ao18 t295.length co18)) (fun _ hk => hk.2) (.int .i64 t298)) (fun _ hk => hk.2) (.int .i64 t299)) (fun _ hk => hk.2) (.slice Ao23 t300.length co23)) (fun _ h_ => h_.1)) (fun _ h_ => h_.1)))); (case side4 => exact (Kd.Q_reads' HO302.out).2.1); rintro e w24 ⟨rfl, hb⟩; refine ⟨_, rfl, ?_⟩; have n0_ := zA (Kd.Q_below (by (with_reducible repeat (first | apply Kd.Q_alloc | apply Kd.Q_drewN | apply Kd.Q_drew)); exact (Kd.Q_mono (Kd.Q_mono (Kd.Q_far (p := ⟨gb307, 2, none⟩) (Kd.Q_far (p := ⟨gb307, 1, none⟩) (Kd.Q_far (p := ⟨gb307, 0, none⟩) (Kd.Q_far (p := ⟨gb306, 2, none⟩) (Kd.Q_far (p := ⟨gb306, 1, none⟩) (Kd.Q_far (p := ⟨gb306, 0, none⟩) (Kd.Q_types (Kd.Q_types HO297.out BK306.out (by decide)) BK307.out (by decide)) (fun _ hk => hk.1.2) (.int .i64 t293)) (fun _ hk => hk.1.2) (.int .i64 t294)) (fun _ hk => hk.1.2) (.slice Ao18 t295.length co18)) (fun _ hk => hk.2) (.int .i64 t298)) (fun _ hk => hk.2) (.int .i64 t299)) (fun _ hk => hk.2) (.slice Ao23 t300.length co23)) (fun _ h_ => h_.1)) (fun _ h_ => h_.1))) hb); have n1_ := zA (Kd.Q_below (by (with_reducible repeat (first | apply Kd.Q_alloc | apply Kd.Q_drewN | apply Kd.Q_drew)); exact (Kd.Q_mono (Kd.Q_mono (Kd.Q_far (p := ⟨gb307, 2, none⟩) (Kd.Q_far (p := ⟨gb307, 1, none⟩) (Kd.Q_far (p := ⟨gb307, 0, none⟩) (Kd.Q_far (p := ⟨gb306, 2, none⟩) (Kd.Q_far (p := ⟨gb306, 1, none⟩) (Kd.Q_far (p := ⟨gb306, 0, none⟩) (Kd.Q_types (Kd.Q_types HO302.out BK306.out (by decide)) BK307.out (by decide)) (fun _ hk => hk.1.2) (.int .i64 t293)) (fun _ hk => hk.1.2) (.int .i64 t294)) (fun _ hk => hk.1.2) (.slice Ao18 t295.length co18)) (fun _ hk => hk.2) (.int .i64 t298)) (fun _ hk => hk.2) (.int .i64 t299)) (fun _ hk => hk.2) (.slice Ao23 t300.length co23)) (fun _ h_ => h_.1)) (fun _ h_ => h_.1))) hb); have n2_ := zA (zU (g := gb281) (o := .cells #[.int .i64 x282000_1, .int .i64 x282001_1, .slice none 0 0] 26 (0, 0)) (bD_ BK281) hb); have n3_ := zA (zU (g := gb282) (o := .cells #[.int .i64 x283000_1, .int .i64 x283001_1, .slice none 0 0] 26 (0, 0)) (bD_ BK282) hb); have n4_ := zA (IsS90.below (show IsS90 w ((((((w12.setCell ⟨gb306, 0, none⟩ (.int .i64 t293)).setCell ⟨gb306, 1, none⟩ (.int .i64 t294)).setCell ⟨gb306, 2, none⟩ (.slice Ao18 t295.length co18)).setCell ⟨gb307, 0, none⟩ (.int .i64 t298)).setCell ⟨gb307, 1, none⟩ (.int .i64 t299)).setCell ⟨gb307, 2, none⟩ (.slice Ao23 t300.length co23)) g286 t283 t304 t305 from by repeat (first | (with_reducible first | exact HI286.out | apply IsS90.alloc | apply IsS90.drewN | apply IsS90.drew | apply IsS90.set_1 | apply IsS90.set_2 | refine IsS90.far ?_ NB286_281.out _ | refine IsS90.far ?_ NB286_282.out _ | refine IsS90.far ?_ NB286_306.out _ | refine IsS90.far ?_ NB286_307.out _) | exact HI286.out)) hb); have n5_ := zA (zU (g := gb306) (o := .cells #[.int .i64 t293, .int .i64 t294, .slice Ao18 t295.length co18] 26 (0, 0)) (by (with_reducible repeat (first | refine zM ?_ _ | refine zN ?_ | refine zO ?_ _)); refine blk_far ?_ NB306_307.out _; (with_reducible repeat (first | refine zM ?_ _ | refine zN ?_ | refine zO ?_ _)); refine blk_far ?_ NB306_307.out _; (with_reducible repeat (first | refine zM ?_ _ | refine zN ?_ | refine zO ?_ _)); refine blk_far ?_ NB306_307.out _; (with_reducible repeat (first | refine zM ?_ _ | refine zN ?_ | refine zO ?_ _)); refine blk_put (cs := #[.int .i64 t293, .int .i64 t294, .slice none 0 0]) ?_ 2 _ rfl; (with_reducible repeat (first | refine zM ?_ _ | refine zN ?_ | refine zO ?_ _)); refine blk_put (cs := #[.int .i64 t293, .int .i64 0, .slice none 0 0]) ?_ 1 _ rfl; (with_reducible repeat (first | refine zM ?_ _ | refine zN ?_ | refine zO ?_ _)); refine blk_put (cs := #[.int .i64 0, .int .i64 0, .slice none 0 0]) ?_ 0 _ rfl; (with_reducible repeat (first | refine zM ?_ _ | refine zN ?_ | refine zO ?_ _)); exact BK306.out) hb); have n6_ := zA (zU (g := gb307) (o := .cells #[.int .i64 t298, .int .i64 t299, .slice Ao23 t300.length co23] 26 (0, 0)) (by (with_reducible repeat (first | refine zM ?_ _ | refine zN ?_ | refine zO ?_ _)); refine blk_put (cs := #[.int .i64 t298, .int .i64 t299, .slice none 0 0]) ?_ 2 _ rfl; (with_reducible repeat (first | refine zM ?_ _ | refine zN ?_ | refine zO ?_ _)); refine blk_put (cs := #[.int .i64 t298, .int .i64 0, .slice none 0 0]) ?_ 1 _ rfl; (with_reducible repeat (first | refine zM ?_ _ | refine zN ?_ | refine zO ?_ _)); refine blk_put (cs := #[.int .i64 0, .int .i64 0, .slice none 0 0]) ?_ 0 _ rfl; (with_reducible repeat (first | refine zM ?_ _ | refine zN ?_ | refine zO ?_ _)); refine blk_far ?_ NB307_306.out _; (with_reducible repeat (first | refine zM ?_ _ | refine zN ?_ | refine zO ?_ _)); refine blk_far ?_ NB307_306.out _; (with_reducible repeat (first | refine zM ?_ _ | refine zN ?_ | refine zO ?_ _)); refine blk_far ?_ NB307_306.out _; (with_reducible repeat (first | refine zM ?_ _ | refine zN ?_ | refine zO ?_ _)); exact BK307.out) hb); have n7_ := zA (below_step (by repeat (first | (with_reducible first | exact HB.out | apply zR | apply zP | apply zQ | refine zS ?_ (IsS90.ge HI286.out) | refine zS ?_ GE281.out | refine zS ?_ GE282.out | refine zS ?_ GE306.out | refine zS ?_ GE307.out) | exact HB.out)) hb); clear HO297; clear HO302; clear BK281; clear BK282; clear HI286; clear BK306; clear BK307; clear HB; have HO297 := n0_; have HO302 := n1_; have BK281 := n2_; have BK282 := n3_; have HI286 := n4_; have BK306 := n5_; have BK307 := n6_; have HB := n7_; clear n0_ n1_ n2_ n3_ n4_ n5_ n6_ n7_; (try clear hb); (try clear hb2); (try clear hk); (try clear hi)))
     have n0_ := zA (Kd.Q_drew HO297.out)
     have n1_ := zA (Kd.Q_drew HO302.out)
     have n2_ := zA (zN BK281.out)
     have n3_ := zA (zN BK282.out)
     have n4_ := zA (zN BK306.out)
     have n5_ := zA (zN BK307.out)
     have n6_ := zA (IsS90.drew HI286.out)
     have n7_ := zA (zQ HB.out)
     clear HO297
     clear HO302
     clear BK281
     clear BK282
     clear BK306
     clear BK307
     clear HI286
     clear HB
     have HO297 := n0_
     have HO302 := n1_
     have BK281 := n2_
     have BK282 := n3_
     have BK306 := n4_
     have BK307 := n5_
     have HI286 := n6_
     have HB := n7_
     clear n0_ n1_ n2_ n3_ n4_ n5_ n6_ n7_
     refine start_ (n := 6) (S := fun w' => w'.cell? ⟨gb306, 0, none⟩ = some (.int .i64 t293) ∧ w'.cell? ⟨gb306, 1, none⟩ = some (.int .i64 t294) ∧ w'.cell? ⟨gb306, 2, none⟩ = some (.slice Ao18 t295.length co18) ∧ w'.cell? ⟨gb307, 0, none⟩ = some (.int .i64 t298) ∧ w'.cell? ⟨gb307, 1, none⟩ = some (.int .i64 t299) ∧ w'.cell? ⟨gb307, 2, none⟩ = some (.slice Ao23 t300.length co23)) (ds := []) #[false, false, false, false, false, false] (by kernel_rfl) rfl rfl ⟨(blk_cell BK306.out 0).trans rfl, (blk_cell BK306.out 1).trans rfl, (blk_cell BK306.out 2).trans rfl, (blk_cell BK307.out 0).trans rfl, (blk_cell BK307.out 1).trans rfl, (blk_cell BK307.out 2).trans rfl⟩ (fun hHeld => ?_)
     generalize w24.drew = w25 at HO297 HO302 BK281 BK282 BK306 BK307 HI286 HB hHeld ⊢
     refine pure_ (i := 2) (N := some 28) (v := ?_) (a' := ?_) #[false, false, true, false, false, false] rfl rfl (by kernel_rfl) (fun _ _ _ h => h) (Or.inl ⟨by rfl, ?_⟩) ?_ ?_
     rotate_left
     ·intro w'
      go_simp
      with_reducible rfl
     rotate_left
     ·simp only [Act.put, zB, zC, zD, i64_w, i32_w]
      rfl
     refine take_ (i := 0) (N := some 26) (v := ?_) (a' := ?_) #[true, false, true, false, false, false] rfl rfl (by kernel_rfl) (fun _ _ _ h => h) (Or.inl ⟨by rfl, ?_⟩) hHeld ?_ ?_
     rotate_left
     ·rintro w' ⟨s0, s1, s2, s3, s4, s5⟩
      go_simp
      with_reducible rfl
     rotate_left
     ·simp only [Act.put, zB, zC, zD, i64_w, i32_w]
      rfl
     refine take_ (i := 1) (N := some 27) (v := ?_) (a' := ?_) #[true, true, true, false, false, false] rfl rfl (by kernel_rfl) (fun _ _ _ h => h) (Or.inl ⟨by rfl, ?_⟩) hHeld ?_ ?_
     rotate_left
     ·rintro w' ⟨s0, s1, s2, s3, s4, s5⟩
      go_simp
      with_reducible rfl
     rotate_left
     ·simp only [Act.put, zB, zC, zD, i64_w, i32_w]
      rfl
     refine one_ (i := 3) (N := none) #[true, true, true, true, false, false] rfl rfl (by kernel_rfl) (by decide) (fun K hK => ?_)
     have hs26 : w25.cell? ⟨gb281, 0, none⟩ = some (.int .i64 x282000_1) := (blk_cell BK281.out 0).trans rfl
     have hfs26 := blk_frozen BK281.out 0
     have hns26_1 := NB282_281.out
     have hns26_2 := NB306_281.out
     have hns26_3 := NB307_281.out
     have hms26_1 := NB281_282.out
     have hms26_2 := NB281_306.out
     have hms26_3 := NB281_307.out
     have hs27 : w25.cell? ⟨gb281, 1, none⟩ = some (.int .i64 x282001_1) := (blk_cell BK281.out 1).trans rfl
     have hfs27 := blk_frozen BK281.out 1
     have hns27_1 := NB282_281.out
     have hns27_2 := NB306_281.out
     have hns27_3 := NB307_281.out
     have hms27_1 := NB281_282.out
     have hms27_2 := NB281_306.out
     have hms27_3 := NB281_307.out
     have hs28 : w25.cell? ⟨gb281, 2, none⟩ = some (.slice none 0 0) := (blk_cell BK281.out 2).trans rfl
     have hfs28 := blk_frozen BK281.out 2
     have hns28_1 := NB282_281.out
     have hns28_2 := NB306_281.out
     have hns28_3 := NB307_281.out
     have hms28_1 := NB281_282.out
     have hms28_2 := NB281_306.out
     have hms28_3 := NB281_307.out
     refine skip_ (w1 := ?_) (by rfl) rfl ?_ ?_
     rotate_left
     ·go_simp
      rfl
     refine hK.out _ _ ⟨((cell_far (p := ⟨gb281, _, none⟩) NB306_281.out _).trans (((cell_far (p := ⟨gb281, _, none⟩) NB306_281.out _).trans (((cell_far (p := ⟨gb281, _, none⟩) NB306_281.out _).trans (hHeld.1)))))), ((cell_far (p := ⟨gb281, _, none⟩) NB306_281.out _).trans (((cell_far (p := ⟨gb281, _, none⟩) NB306_281.out _).trans (((cell_far (p := ⟨gb281, _, none⟩) NB306_281.out _).trans (hHeld.2.1)))))), ((cell_far (p := ⟨gb281, _, none⟩) NB306_281.out _).trans (((cell_far (p := ⟨gb281, _, none⟩) NB306_281.out _).trans (((cell_far (p := ⟨gb281, _, none⟩) NB306_281.out _).trans (hHeld.2.2.1)))))), ((cell_far (p := ⟨gb281, _, none⟩) NB307_281.out _).trans (((cell_far (p := ⟨gb281, _, none⟩) NB307_281.out _).trans (((cell_far (p := ⟨gb281, _, none⟩) NB307_281.out _).trans (hHeld.2.2.2.1)))))), ((cell_far (p := ⟨gb281, _, none⟩) NB307_281.out _).trans (((cell_far (p := ⟨gb281, _, none⟩) NB307_281.out _).trans (((cell_far (p := ⟨gb281, _, none⟩) NB307_281.out _).trans (hHeld.2.2.2.2.1)))))), ((cell_far (p := ⟨gb281, _, none⟩) NB307_281.out _).trans (((cell_far (p := ⟨gb281, _, none⟩) NB307_281.out _).trans (((cell_far (p := ⟨gb281, _, none⟩) NB307_281.out _).trans (hHeld.2.2.2.2.2))))))⟩ (fun hHeld => ?_)
     clear hK K
     refine one_ (i := 4) (N := none) #[true, true, true, true, true, false] rfl rfl (by kernel_rfl) (by decide) (fun K hK => ?_)
     have hs29 : w25.cell? ⟨gb282, 0, none⟩ = some (.int .i64 x283000_1) := (blk_cell BK282.out 0).trans rfl
     have hfs29 := blk_frozen BK282.out 0
     have hns29_0 := NB281_282.out
     have hns29_2 := NB306_282.out
     have hns29_3 := NB307_282.out
     have hms29_0 := NB282_281.out
     have hms29_2 := NB282_306.out
     have hms29_3 := NB282_307.out
     have hs30 : w25.cell? ⟨gb282, 1, none⟩ = some (.int .i64 x283001_1) := (blk_cell BK282.out 1).trans rfl
     have hfs30 := blk_frozen BK282.out 1
     have hns30_0 := NB281_282.out
     have hns30_2 := NB306_282.out
     have hns30_3 := NB307_282.out
     have hms30_0 := NB282_281.out
     have hms30_2 := NB282_306.out
     have hms30_3 := NB282_307.out
     have hs31 : w25.cell? ⟨gb282, 2, none⟩ = some (.slice none 0 0) := (blk_cell BK282.out 2).trans rfl
     have hfs31 := blk_frozen BK282.out 2
     have hns31_0 := NB281_282.out
     have hns31_2 := NB306_282.out
     have hns31_3 := NB307_282.out
     have hms31_0 := NB282_281.out
     have hms31_2 := NB282_306.out
     have hms31_3 := NB282_307.out
     refine skip_ (w1 := ?_) (by rfl) rfl ?_ ?_
     rotate_left
     ·go_simp
      rfl
     refine hK.out _ _ ⟨((cell_far (p := ⟨gb282, _, none⟩) NB306_282.out _).trans (((cell_far (p := ⟨gb282, _, none⟩) NB306_282.out _).trans (((cell_far (p := ⟨gb282, _, none⟩) NB306_282.out _).trans (hHeld.1)))))), ((cell_far (p := ⟨gb282, _, none⟩) NB306_282.out _).trans (((cell_far (p := ⟨gb282, _, none⟩) NB306_282.out _).trans (((cell_far (p := ⟨gb282, _, none⟩) NB306_282.out _).trans (hHeld.2.1)))))), ((cell_far (p := ⟨gb282, _, none⟩) NB306_282.out _).trans (((cell_far (p := ⟨gb282, _, none⟩) NB306_282.out _).trans (((cell_far (p := ⟨gb282, _, none⟩) NB306_282.out _).trans (hHeld.2.2.1)))))), ((cell_far (p := ⟨gb282, _, none⟩) NB307_282.out _).trans (((cell_far (p := ⟨gb282, _, none⟩) NB307_282.out _).trans (((cell_far (p := ⟨gb282, _, none⟩) NB307_282.out _).trans (hHeld.2.2.2.1)))))), ((cell_far (p := ⟨gb282, _, none⟩) NB307_282.out _).trans (((cell_far (p := ⟨gb282, _, none⟩) NB307_282.out _).trans (((cell_far (p := ⟨gb282, _, none⟩) NB307_282.out _).trans (hHeld.2.2.2.2.1)))))), ((cell_far (p := ⟨gb282, _, none⟩) NB307_282.out _).trans (((cell_far (p := ⟨gb282, _, none⟩) NB307_282.out _).trans (((cell_far (p := ⟨gb282, _, none⟩) NB307_282.out _).trans (hHeld.2.2.2.2.2))))))⟩ (fun hHeld => ?_)
     clear hK K
     refine pure_ (i := 5) (N := some 4) (v := ?_) (a' := ?_) #[true, true, true, true, true, true] rfl rfl (by kernel_rfl) (fun _ _ _ h => h) (Or.inl ⟨by rfl, ?_⟩) ?_ ?_
     rotate_left
     ·intro w'
      go_simp
      with_reducible rfl
     rotate_left
     ·simp only [Act.put, zB, zC, zD, i64_w, i32_w]
      rfl
     refine done_ (by kernel_rfl) ?_
     try go_wp2
     refine bodyPost_ret (results_list (rs := [.cell 2 26, .cell 3 26, .tmp 4]) rfl (by simp) (.cell gb281 26 #[.int .i64 t293, .int .i64 t294, .slice Ao18 t295.length co18] (0, 0) _ rfl (by (with_reducible repeat (first | refine zM ?_ _ | refine zN ?_ | refine zO ?_ _)); refine blk_far ?_ NB281_282.out _; (with_reducible repeat (first | refine zM ?_ _ | refine zN ?_ | refine zO ?_ _)); refine blk_far ?_ NB281_282.out _; (with_reducible repeat (first | refine zM ?_ _ | refine zN ?_ | refine zO ?_ _)); refine blk_far ?_ NB281_282.out _; (with_reducible repeat (first | refine zM ?_ _ | refine zN ?_ | refine zO ?_ _)); refine blk_put (cs := #[.int .i64 t293, .int .i64 t294, .slice none 0 0]) ?_ 2 _ rfl; (with_reducible repeat (first | refine zM ?_ _ | refine zN ?_ | refine zO ?_ _)); refine blk_put (cs := #[.int .i64 t293, .int .i64 x282001_1, .slice none 0 0]) ?_ 1 _ rfl; (with_reducible repeat (first | refine zM ?_ _ | refine zN ?_ | refine zO ?_ _)); refine blk_put (cs := #[.int .i64 x282000_1, .int .i64 x282001_1, .slice none 0 0]) ?_ 0 _ rfl; (with_reducible repeat (first | refine zM ?_ _ | refine zN ?_ | refine zO ?_ _)); exact BK281.out) Try.underlying26 rfl (by kernel_rfl) (.cell gb282 26 #[.int .i64 t298, .int .i64 t299, .slice Ao23 t300.length co23] (0, 0) _ rfl (by (with_reducible repeat (first | refine zM ?_ _ | refine zN ?_ | refine zO ?_ _)); refine blk_put (cs := #[.int .i64 t298, .int .i64 t299, .slice none 0 0]) ?_ 2 _ rfl; (with_reducible repeat (first | refine zM ?_ _ | refine zN ?_ | refine zO ?_ _)); refine blk_put (cs := #[.int .i64 t298, .int .i64 x283001_1, .slice none 0 0]) ?_ 1 _ rfl; (with_reducible repeat (first | refine zM ?_ _ | refine zN ?_ | refine zO ?_ _)); refine blk_put (cs := #[.int .i64 x283000_1, .int .i64 x283001_1, .slice none 0 0]) ?_ 0 _ rfl; (with_reducible repeat (first | refine zM ?_ _ | refine zN ?_ | refine zO ?_ _)); refine blk_far ?_ NB282_281.out _; (with_reducible repeat (first | refine zM ?_ _ | refine zN ?_ | refine zO ?_ _)); refine blk_far ?_ NB282_281.out _; (with_reducible repeat (first | refine zM ?_ _ | refine zN ?_ | refine zO ?_ _)); refine blk_far ?_ NB282_281.out _; (with_reducible repeat (first | refine zM ?_ _ | refine zN ?_ | refine zO ?_ _)); exact BK282.out) Try.underlying26 rfl (by kernel_rfl) (.tmp .nil)))) rfl ?_
     exact ⟨_, _, by first | rfl | (simp [errW_none, errW_some] <;> rfl) | (simp [*, errW_none, errW_some] <;> rfl), by (with_reducible repeat (first | apply Kd.Q_alloc | apply Kd.Q_drewN | apply Kd.Q_drew)); exact Kd.Q_mono (Kd.Q_far (p := ⟨gb282, 2, none⟩) (Kd.Q_far (p := ⟨gb282, 1, none⟩) (Kd.Q_far (p := ⟨gb282, 0, none⟩) (Kd.Q_far (p := ⟨gb281, 2, none⟩) (Kd.Q_far (p := ⟨gb281, 1, none⟩) (Kd.Q_far (p := ⟨gb281, 0, none⟩) (Kd.Q_types (Kd.Q_types HO297.out BK281.out (by decide)) BK282.out (by decide)) (fun _ hk => hk.1.2) (.int .i64 t293)) (fun _ hk => hk.1.2) (.int .i64 t294)) (fun _ hk => hk.1.2) (.slice Ao18 t295.length co18)) (fun _ hk => hk.2) (.int .i64 t298)) (fun _ hk => hk.2) (.int .i64 t299)) (fun _ hk => hk.2) (.slice Ao23 t300.length co23)) (fun _ hk => hk.1.1), by (with_reducible repeat (first | apply Kd.Q_alloc | apply Kd.Q_drewN | apply Kd.Q_drew)); exact Kd.Q_mono (Kd.Q_far (p := ⟨gb282, 2, none⟩) (Kd.Q_far (p := ⟨gb282, 1, none⟩) (Kd.Q_far (p := ⟨gb282, 0, none⟩) (Kd.Q_far (p := ⟨gb281, 2, none⟩) (Kd.Q_far (p := ⟨gb281, 1, none⟩) (Kd.Q_far (p := ⟨gb281, 0, none⟩) (Kd.Q_types (Kd.Q_types HO302.out BK281.out (by decide)) BK282.out (by decide)) (fun _ hk => hk.1.2) (.int .i64 t293)) (fun _ hk => hk.1.2) (.int .i64 t294)) (fun _ hk => hk.1.2) (.slice Ao18 t295.length co18)) (fun _ hk => hk.2) (.int .i64 t298)) (fun _ hk => hk.2) (.int .i64 t299)) (fun _ hk => hk.2) (.slice Ao23 t300.length co23)) (fun _ hk => hk.1.1), by repeat (first | (with_reducible first | exact HB.out | apply zR | apply zP | apply zQ | refine zS ?_ (IsS90.ge HI286.out) | refine zS ?_ GE281.out | refine zS ?_ GE282.out | refine zS ?_ GE306.out | refine zS ?_ GE307.out) | exact HB.out)⟩
    ·replace c9 := Bool.eq_false_iff.mpr c9
     subst c9
     have H1 : (spec_JobOf.l0 k1 (wrap64 (x6_1 + 1)) t283 t304 t305) = some (r1, r2, r3, r4, r5, r6, r7) := by rw [if_neg (show ¬ (false = true) by decide)] at H; exact H
     clear H
     have H := H1
     clear H1
     have H' := zA H
     clear H
     go_wp2_with (first | ((with_reducible refine gate_callee (f := 56) rfl ?_); refine goesL_ (some 18) rfl rfl Try.func56 (by kernel_rfl) rfl #[.pointer (some ⟨g286, 0, none⟩)] rfl (by (try simp only [List.map_toArray, List.map_cons, List.map_nil]); first | done | rfl | (simp only [List.length_drop, List.length_take]; rfl)) ?_; (with_reducible refine (spec_l00Src_job.calls k1 g286 t283 x287001_1 x287002_1 t293 t294 t295 t298 t299 t300 t303 t304 t305 w _ ?side1 ?side2 A7.out).mono ?_); (case side1 => repeat (first | (with_reducible first | exact HI286.out | apply IsS90.alloc | apply IsS90.drewN | apply IsS90.drew | apply IsS90.set_1 | apply IsS90.set_2 | refine IsS90.far ?_ NB286_281.out _ | refine IsS90.far ?_ NB286_282.out _) | exact HI286.out)); (case side2 => repeat (first | (with_reducible first | exact HB.out | apply zR | apply zP | apply zQ | refine zS ?_ (IsS90.ge HI286.out) | refine zS ?_ GE281.out | refine zS ?_ GE282.out) | exact HB.out)); rintro e w32 ⟨v296, v301, rfl, ho0, ho1, hi, hb, hk⟩; refine ⟨_, rfl, ?_⟩; have n0_ := zA (KeepBut.blk hk (g' := gb281) (o := .cells #[.int .i64 x282000_1, .int .i64 x282001_1, .slice none 0 0] 26 (0, 0)) (bA_ BK281) NB281_286.out (by simp)); have n1_ := zA (KeepBut.blk hk (g' := gb282) (o := .cells #[.int .i64 x283000_1, .int .i64 x283001_1, .slice none 0 0] 26 (0, 0)) (bA_ BK282) NB282_286.out (by simp)); have n2_ := zA (Kd.Q_lower ho0 (zT (by repeat (first | (with_reducible first | exact HB.out | apply zR | apply zP | apply zQ | refine zS ?_ (IsS90.ge HI286.out) | refine zS ?_ GE281.out | refine zS ?_ GE282.out) | exact HB.out)))); have n3_ := zA (Kd.Q_lower ho1 (zT (by repeat (first | (with_reducible first | exact HB.out | apply zR | apply zP | apply zQ | refine zS ?_ (IsS90.ge HI286.out) | refine zS ?_ GE281.out | refine zS ?_ GE282.out) | exact HB.out)))); have n4_ := zA (hb); have n5_ := zA (hi); clear BK281; clear BK282; clear HB; clear HI286; have BK281 := n0_; have BK282 := n1_; have HO297 := n2_; have HO302 := n3_; have HB := n4_; have HI286 := n5_; clear n0_ n1_ n2_ n3_ n4_ n5_; (try clear hb); (try clear hb2); (try clear hk); (try clear hi); (try clear ho0); (try clear ho1)) | ((with_reducible refine gate_dst (N := 7) rfl ?_); refine box_event ?hg (N := 7) ?hd (cs := #[.int .i64 0, .int .i64 0, .slice none 0 0]) (t := 26) ?hr ?_; (case hd => rfl); (case hg => rfl); (case hr => first | (go_simp; done) | (go_simp; rfl)); intro gb306 hg w33 hbox hb; have n0_ := zA (Kd.Q_below (by (with_reducible repeat (first | apply Kd.Q_alloc | apply Kd.Q_drewN | apply Kd.Q_drew)); exact HO297.out) hb); have n1_ := zA (Kd.Q_below (by (with_reducible repeat (first | apply Kd.Q_alloc | apply Kd.Q_drewN | apply Kd.Q_drew)); exact HO302.out) hb); have n2_ := zA (zU (g := gb281) (o := .cells #[.int .i64 x282000_1, .int .i64 x282001_1, .slice none 0 0] 26 (0, 0)) (bA_ BK281) hb); have n3_ := zA (zU (g := gb282) (o := .cells #[.int .i64 x283000_1, .int .i64 x283001_1, .slice none 0 0] 26 (0, 0)) (bA_ BK282) hb); have n4_ := zA (IsS90.below (by repeat (first | (with_reducible first | exact HI286.out | apply IsS90.alloc | apply IsS90.drewN | apply IsS90.drew | apply IsS90.set_1 | apply IsS90.set_2 | refine IsS90.far ?_ NB286_281.out _ | refine IsS90.far ?_ NB286_282.out _) | exact HI286.out)) hb); have n5_ := zA (below_step (by repeat (first | (with_reducible first | exact HB.out | apply zR | apply zP | apply zQ | refine zS ?_ (IsS90.ge HI286.out) | refine zS ?_ GE281.out | refine zS ?_ GE282.out) | exact HB.out)) hb); have n6_ := zA (hbox); have n7_ := zA ((by rw [hg]; exact (zT (by repeat (first | (with_reducible first | exact HB.out | apply zR | apply zP | apply zQ | refine zS ?_ (IsS90.ge HI286.out) | refine zS ?_ GE281.out | refine zS ?_ GE282.out) | exact HB.out))) : w.heap.size ≤ gb306)); have n8_ := zA ((by rw [hg]; exact (zT (by repeat (first | (with_reducible first | exact HB.out | apply zR | apply zP | apply zQ | refine zS ?_ (IsS90.ge HI286.out) | refine zS ?_ GE281.out | refine zS ?_ GE282.out) | exact HB.out))) : w.heap.size ≤ gb306)); have n9_ := zA ((by rw [hg]; exact Nat.ne_of_lt (blk_lt (g := gb281) (o := .cells #[.int .i64 x282000_1, .int .i64 x282001_1, .slice none 0 0] 26 (0, 0)) (bA_ BK281)) : gb281 ≠ gb306)); have n10_ := zA ((by rw [hg]; exact Nat.ne_of_gt (blk_lt (g := gb281) (o := .cells #[.int .i64 x282000_1, .int .i64 x282001_1, .slice none 0 0] 26 (0, 0)) (bA_ BK281)) : gb306 ≠ gb281)); have n11_ := zA ((by rw [hg]; exact Nat.ne_of_lt (blk_lt (g := gb282) (o := .cells #[.int .i64 x283000_1, .int .i64 x283001_1, .slice none 0 0] 26 (0, 0)) (bA_ BK282)) : gb282 ≠ gb306)); have n12_ := zA ((by rw [hg]; exact Nat.ne_of_gt (blk_lt (g := gb282) (o := .cells #[.int .i64 x283000_1, .int .i64 x283001_1, .slice none 0 0] 26 (0, 0)) (bA_ BK282)) : gb306 ≠ gb282)); have n13_ := zA ((by rw [hg]; exact Nat.ne_of_lt (IsS90.lt (show IsS90 w _ g286 t283 t304 t305 from by repeat (first | (with_reducible first | exact HI286.out | apply IsS90.alloc | apply IsS90.drewN | apply IsS90.drew | apply IsS90.set_1 | apply IsS90.set_2 | refine IsS90.far ?_ NB286_281.out _ | refine IsS90.far ?_ NB286_282.out _) | exact HI286.out))) : g286 ≠ gb306)); have n14_ := zA ((by rw [hg]; exact Nat.ne_of_gt (IsS90.lt (show IsS90 w _ g286 t283 t304 t305 from by repeat (first | (with_reducible first | exact HI286.out | apply IsS90.alloc | apply IsS90.drewN | apply IsS90.drew | apply IsS90.set_1 | apply IsS90.set_2 | refine IsS90.far ?_ NB286_281.out _ | refine IsS90.far ?_ NB286_282.out _) | exact HI286.out))) : gb306 ≠ g286)); clear HO297; clear HO302; clear BK281; clear BK282; clear HI286; clear HB; have HO297 := n0_; have HO302 := n1_; have BK281 := n2_; have BK282 := n3_; have HI286 := n4_; have HB := n5_; have BK306 := n6_; have GW306 := n7_; have GE306 := n8_; have NB281_306 := n9_; have NB306_281 := n10_; have NB282_306 := n11_; have NB306_282 := n12_; have NB286_306 := n13_; have NB306_286 := n14_; clear n0_ n1_ n2_ n3_ n4_ n5_ n6_ n7_ n8_ n9_ n10_ n11_ n12_ n13_ n14_; clear hb hbox hg) | ((with_reducible refine gate_dst (N := 8) rfl ?_); refine box_event ?hg (N := 8) ?hd (cs := #[.int .i64 0, .int .i64 0, .slice none 0 0]) (t := 26) ?hr ?_; (case hd => rfl); (case hg => rfl); (case hr => first | (go_simp; done) | (go_simp; rfl)); intro gb307 hg w34 hbox hb; have n0_ := zA (Kd.Q_below (by (with_reducible repeat (first | apply Kd.Q_alloc | apply Kd.Q_drewN | apply Kd.Q_drew)); exact HO297.out) hb); have n1_ := zA (Kd.Q_below (by (with_reducible repeat (first | apply Kd.Q_alloc | apply Kd.Q_drewN | apply Kd.Q_drew)); exact HO302.out) hb); have n2_ := zA (zU (g := gb281) (o := .cells #[.int .i64 x282000_1, .int .i64 x282001_1, .slice none 0 0] 26 (0, 0)) (bA_ BK281) hb); have n3_ := zA (zU (g := gb282) (o := .cells #[.int .i64 x283000_1, .int .i64 x283001_1, .slice none 0 0] 26 (0, 0)) (bA_ BK282) hb); have n4_ := zA (IsS90.below (by repeat (first | (with_reducible first | exact HI286.out | apply IsS90.alloc | apply IsS90.drewN | apply IsS90.drew | apply IsS90.set_1 | apply IsS90.set_2 | refine IsS90.far ?_ NB286_281.out _ | refine IsS90.far ?_ NB286_282.out _ | refine IsS90.far ?_ NB286_306.out _) | exact HI286.out)) hb); have n5_ := zA (zU (g := gb306) (o := .cells #[.int .i64 0, .int .i64 0, .slice none 0 0] 26 (0, 0)) (bA_ BK306) hb); have n6_ := zA (below_step (by repeat (first | (with_reducible first | exact HB.out | apply zR | apply zP | apply zQ | refine zS ?_ (IsS90.ge HI286.out) | refine zS ?_ GE281.out | refine zS ?_ GE282.out | refine zS ?_ GE306.out) | exact HB.out)) hb); have n7_ := zA (hbox); have n8_ := zA ((by rw [hg]; exact (zT (by repeat (first | (with_reducible first | exact HB.out | apply zR | apply zP | apply zQ | refine zS ?_ (IsS90.ge HI286.out) | refine zS ?_ GE281.out | refine zS ?_ GE282.out | refine zS ?_ GE306.out) | exact HB.out))) : w.heap.size ≤ gb307)); have n9_ := zA ((by rw [hg]; exact (zT (by repeat (first | (with_reducible first | exact HB.out | apply zR | apply zP | apply zQ | refine zS ?_ (IsS90.ge HI286.out) | refine zS ?_ GE281.out | refine zS ?_ GE282.out | refine zS ?_ GE306.out) | exact HB.out))) : w.heap.size ≤ gb307)); have n10_ := zA ((by rw [hg]; exact Nat.ne_of_lt (blk_lt (g := gb281) (o := .cells #[.int .i64 x282000_1, .int .i64 x282001_1, .slice none 0 0] 26 (0, 0)) (bA_ BK281)) : gb281 ≠ gb307)); have n11_ := zA ((by rw [hg]; exact Nat.ne_of_gt (blk_lt (g := gb281) (o := .cells #[.int .i64 x282000_1, .int .i64 x282001_1, .slice none 0 0] 26 (0, 0)) (bA_ BK281)) : gb307 ≠ gb281)); have n12_ := zA ((by rw [hg]; exact Nat.ne_of_lt (blk_lt (g := gb282) (o := .cells #[.int .i64 x283000_1, .int .i64 x283001_1, .slice none 0 0] 26 (0, 0)) (bA_ BK282)) : gb282 ≠ gb307)); have n13_ := zA ((by rw [hg]; exact Nat.ne_of_gt (blk_lt (g := gb282) (o := .cells #[.int .i64 x283000_1, .int .i64 x283001_1, .slice none 0 0] 26 (0, 0)) (bA_ BK282)) : gb307 ≠ gb282)); have n14_ := zA ((by rw [hg]; exact Nat.ne_of_lt (blk_lt (g := gb306) (o := .cells #[.int .i64 0, .int .i64 0, .slice none 0 0] 26 (0, 0)) (bA_ BK306)) : gb306 ≠ gb307)); have n15_ := zA ((by rw [hg]; exact Nat.ne_of_gt (blk_lt (g := gb306) (o := .cells #[.int .i64 0, .int .i64 0, .slice none 0 0] 26 (0, 0)) (bA_ BK306)) : gb307 ≠ gb306)); have n16_ := zA ((by rw [hg]; exact Nat.ne_of_lt (IsS90.lt (show IsS90 w _ g286 t283 t304 t305 from by repeat (first | (with_reducible first | exact HI286.out | apply IsS90.alloc | apply IsS90.drewN | apply IsS90.drew | apply IsS90.set_1 | apply IsS90.set_2 | refine IsS90.far ?_ NB286_281.out _ | refine IsS90.far ?_ NB286_282.out _ | refine IsS90.far ?_ NB286_306.out _) | exact HI286.out))) : g286 ≠ gb307)); have n17_ := zA ((by rw [hg]; exact Nat.ne_of_gt (IsS90.lt (show IsS90 w _ g286 t283 t304 t305 from by repeat (first | (with_reducible first | exact HI286.out | apply IsS90.alloc | apply IsS90.drewN | apply IsS90.drew | apply IsS90.set_1 | apply IsS90.set_2 | refine IsS90.far ?_ NB286_281.out _ | refine IsS90.far ?_ NB286_282.out _ | refine IsS90.far ?_ NB286_306.out _) | exact HI286.out))) : gb307 ≠ g286)); clear HO297; clear HO302; clear BK281; clear BK282; clear HI286; clear BK306; clear HB; have HO297 := n0_; have HO302 := n1_; have BK281 := n2_; have BK282 := n3_; have HI286 := n4_; have BK306 := n5_; have HB := n6_; have BK307 := n7_; have GW307 := n8_; have GE307 := n9_; have NB281_307 := n10_; have NB307_281 := n11_; have NB282_307 := n12_; have NB307_282 := n13_; have NB306_307 := n14_; have NB307_306 := n15_; have NB286_307 := n16_; have NB307_286 := n17_; clear n0_ n1_ n2_ n3_ n4_ n5_ n6_ n7_ n8_ n9_ n10_ n11_ n12_ n13_ n14_ n15_ n16_ n17_; clear hb hbox hg; have hnb35 := NB306_281.out; have hnc35 := NB281_306.out; have hnb36 := NB306_282.out; have hnc36 := NB282_306.out; have hnb37 := NB306_307.out; have hnc37 := NB307_306.out; have hnb38 := NB306_286.out; have hnc38 := NB286_306.out; have hcz39_0 : w34.cell? ⟨gb306, 0, none⟩ = some (.int .i64 0) := (blk_cell BK306.out 0).trans rfl; have hcz39_1 : w34.cell? ⟨gb306, 1, none⟩ = some (.int .i64 0) := (blk_cell BK306.out 1).trans rfl; have hcz39_2 : w34.cell? ⟨gb306, 2, none⟩ = some (.slice none 0 0) := (blk_cell BK306.out 2).trans rfl; have hfz39_0 := blk_frozen BK306.out 0; have hfz39_1 := blk_frozen BK306.out 1; have hfz39_2 := blk_frozen BK306.out 2; obtain ⟨Ao40, co40, eo40, _⟩ := Kd.Q_slice HO297.out; subst eo40; have hnb41 := NB307_281.out; have hnc41 := NB281_307.out; have hnb42 := NB307_282.out; have hnc42 := NB282_307.out; have hnb43 := NB307_286.out; have hnc43 := NB286_307.out; have hcz44_0 : w34.cell? ⟨gb307, 0, none⟩ = some (.int .i64 0) := (blk_cell BK307.out 0).trans rfl; have hcz44_1 : w34.cell? ⟨gb307, 1, none⟩ = some (.int .i64 0) := (blk_cell BK307.out 1).trans rfl; have hcz44_2 : w34.cell? ⟨gb307, 2, none⟩ = some (.slice none 0 0) := (blk_cell BK307.out 2).trans rfl; have hfz44_0 := blk_frozen BK307.out 0; have hfz44_1 := blk_frozen BK307.out 1; have hfz44_2 := blk_frozen BK307.out 2; obtain ⟨Ao45, co45, eo45, _⟩ := Kd.Q_slice HO302.out; subst eo45) | ((with_reducible refine gate_callee (f := 57) rfl ?_); refine goesL_ (some 25) rfl rfl Try.func57 (by kernel_rfl) rfl #[.agg #[.int .i64 t293, .int .i64 t294, .slice Ao40 t295.length co40], .agg #[.int .i64 t298, .int .i64 t299, .slice Ao45 t300.length co45], .int .i64 t303] rfl (by (try simp only [List.map_toArray, List.map_cons, List.map_nil]); first | done | rfl | (simp only [List.length_drop, List.length_take]; rfl)) ?_; (with_reducible refine (spec_l10Pair.calls k1 t293 t294 _ _ t295 t298 t299 _ _ t300 t303 false _ ?side1 ?side2 ?side3 ?side4 A8.out).mono ?_); (case side1 => refine (Kd.Q_reads' (e := 3) (base := w.heap.size) (ok := fun k_ => some k_ ≠ (.slice Ao45 t300.length co45 : Value).ownBlock) (n := t295.length) (c := co40) ?_).2.2; exact (by (with_reducible repeat (first | apply Kd.Q_alloc | apply Kd.Q_drewN | apply Kd.Q_drew)); exact (Kd.Q_mono (Kd.Q_mono (Kd.Q_far (p := ⟨gb307, 2, none⟩) (Kd.Q_far (p := ⟨gb307, 1, none⟩) (Kd.Q_far (p := ⟨gb307, 0, none⟩) (Kd.Q_far (p := ⟨gb306, 2, none⟩) (Kd.Q_far (p := ⟨gb306, 1, none⟩) (Kd.Q_far (p := ⟨gb306, 0, none⟩) (Kd.Q_types (Kd.Q_types HO297.out BK306.out (by decide)) BK307.out (by decide)) (fun _ hk => hk.1.2) (.int .i64 t293)) (fun _ hk => hk.1.2) (.int .i64 t294)) (fun _ hk => hk.1.2) (.slice Ao40 t295.length co40)) (fun _ hk => hk.2) (.int .i64 t298)) (fun _ hk => hk.2) (.int .i64 t299)) (fun _ hk => hk.2) (.slice Ao45 t300.length co45)) (fun _ h_ => h_.1)) (fun _ h_ => h_.1)))); (case side2 => exact (Kd.Q_reads' HO297.out).2.1); (case side3 => refine (Kd.Q_reads' (e := 3) (base := w.heap.size) (ok := fun k_ => some k_ ≠ (.slice Ao40 t295.length co40 : Value).ownBlock) (n := t300.length) (c := co45) ?_).2.2; exact (by (with_reducible repeat (first | apply Kd.Q_alloc | apply Kd.Q_drewN | apply Kd.Q_drew)); exact (Kd.Q_mono (Kd.Q_mono (Kd.Q_far (p := ⟨gb307, 2, none⟩) (Kd.Q_far (p := ⟨gb307, 1, none⟩) (Kd.Q_far (p := ⟨gb307, 0, none⟩) (Kd.Q_far (p := ⟨gb306, 2, none⟩) (Kd.Q_far (p := ⟨gb306, 1, none⟩) (Kd.Q_far (p := ⟨gb306, 0, none⟩) (Kd.Q_types (Kd.Q_types HO302.out BK306.out (by decide)) BK307.out (by decide)) (fun _ hk => hk.1.2) (.int .i64 t293)) (fun _ hk => hk.1.2) (.int .i64 t294)) (fun _ hk => hk.1.2) (.slice Ao40 t295.length co40)) (fun _ hk => hk.2) (.int .i64 t298)) (fun _ hk => hk.2) (.int .i64 t299)) (fun _ hk => hk.2) (.slice Ao45 t300.length co45)) (fun _ h_ => h_.1)) (fun _ h_ => h_.1)))); (case side4 => exact (Kd.Q_reads' HO302.out).2.1); rintro e w46 ⟨rfl, hb⟩; refine ⟨_, rfl, ?_⟩; have n0_ := zA (Kd.Q_below (by (with_reducible repeat (first | apply Kd.Q_alloc | apply Kd.Q_drewN | apply Kd.Q_drew)); exact (Kd.Q_mono (Kd.Q_mono (Kd.Q_far (p := ⟨gb307, 2, none⟩) (Kd.Q_far (p := ⟨gb307, 1, none⟩) (Kd.Q_far (p := ⟨gb307, 0, none⟩) (Kd.Q_far (p := ⟨gb306, 2, none⟩) (Kd.Q_far (p := ⟨gb306, 1, none⟩) (Kd.Q_far (p := ⟨gb306, 0, none⟩) (Kd.Q_types (Kd.Q_types HO297.out BK306.out (by decide)) BK307.out (by decide)) (fun _ hk => hk.1.2) (.int .i64 t293)) (fun _ hk => hk.1.2) (.int .i64 t294)) (fun _ hk => hk.1.2) (.slice Ao40 t295.length co40)) (fun _ hk => hk.2) (.int .i64 t298)) (fun _ hk => hk.2) (.int .i64 t299)) (fun _ hk => hk.2) (.slice Ao45 t300.length co45)) (fun _ h_ => h_.1)) (fun _ h_ => h_.1))) hb); have n1_ := zA (Kd.Q_below (by (with_reducible repeat (first | apply Kd.Q_alloc | apply Kd.Q_drewN | apply Kd.Q_drew)); exact (Kd.Q_mono (Kd.Q_mono (Kd.Q_far (p := ⟨gb307, 2, none⟩) (Kd.Q_far (p := ⟨gb307, 1, none⟩) (Kd.Q_far (p := ⟨gb307, 0, none⟩) (Kd.Q_far (p := ⟨gb306, 2, none⟩) (Kd.Q_far (p := ⟨gb306, 1, none⟩) (Kd.Q_far (p := ⟨gb306, 0, none⟩) (Kd.Q_types (Kd.Q_types HO302.out BK306.out (by decide)) BK307.out (by decide)) (fun _ hk => hk.1.2) (.int .i64 t293)) (fun _ hk => hk.1.2) (.int .i64 t294)) (fun _ hk => hk.1.2) (.slice Ao40 t295.length co40)) (fun _ hk => hk.2) (.int .i64 t298)) (fun _ hk => hk.2) (.int .i64 t299)) (fun _ hk => hk.2) (.slice Ao45 t300.length co45)) (fun _ h_ => h_.1)) (fun _ h_ => h_.1))) hb); have n2_ := zA (zU (g := gb281) (o := .cells #[.int .i64 x282000_1, .int .i64 x282001_1, .slice none 0 0] 26 (0, 0)) (bD_ BK281) hb); have n3_ := zA (zU (g := gb282) (o := .cells #[.int .i64 x283000_1, .int .i64 x283001_1, .slice none 0 0] 26 (0, 0)) (bD_ BK282) hb); have n4_ := zA (IsS90.below (show IsS90 w ((((((w34.setCell ⟨gb306, 0, none⟩ (.int .i64 t293)).setCell ⟨gb306, 1, none⟩ (.int .i64 t294)).setCell ⟨gb306, 2, none⟩ (.slice Ao40 t295.length co40)).setCell ⟨gb307, 0, none⟩ (.int .i64 t298)).setCell ⟨gb307, 1, none⟩ (.int .i64 t299)).setCell ⟨gb307, 2, none⟩ (.slice Ao45 t300.length co45)) g286 t283 t304 t305 from by repeat (first | (with_reducible first | exact HI286.out | apply IsS90.alloc | apply IsS90.drewN | apply IsS90.drew | apply IsS90.set_1 | apply IsS90.set_2 | refine IsS90.far ?_ NB286_281.out _ | refine IsS90.far ?_ NB286_282.out _ | refine IsS90.far ?_ NB286_306.out _ | refine IsS90.far ?_ NB286_307.out _) | exact HI286.out)) hb); have n5_ := zA (zU (g := gb306) (o := .cells #[.int .i64 t293, .int .i64 t294, .slice Ao40 t295.length co40] 26 (0, 0)) (by (with_reducible repeat (first | refine zM ?_ _ | refine zN ?_ | refine zO ?_ _)); refine blk_far ?_ NB306_307.out _; (with_reducible repeat (first | refine zM ?_ _ | refine zN ?_ | refine zO ?_ _)); refine blk_far ?_ NB306_307.out _; (with_reducible repeat (first | refine zM ?_ _ | refine zN ?_ | refine zO ?_ _)); refine blk_far ?_ NB306_307.out _; (with_reducible repeat (first | refine zM ?_ _ | refine zN ?_ | refine zO ?_ _)); refine blk_put (cs := #[.int .i64 t293, .int .i64 t294, .slice none 0 0]) ?_ 2 _ rfl; (with_reducible repeat (first | refine zM ?_ _ | refine zN ?_ | refine zO ?_ _)); refine blk_put (cs := #[.int .i64 t293, .int .i64 0, .slice none 0 0]) ?_ 1 _ rfl; (with_reducible repeat (first | refine zM ?_ _ | refine zN ?_ | refine zO ?_ _)); refine blk_put (cs := #[.int .i64 0, .int .i64 0, .slice none 0 0]) ?_ 0 _ rfl; (with_reducible repeat (first | refine zM ?_ _ | refine zN ?_ | refine zO ?_ _)); exact BK306.out) hb); have n6_ := zA (zU (g := gb307) (o := .cells #[.int .i64 t298, .int .i64 t299, .slice Ao45 t300.length co45] 26 (0, 0)) (by (with_reducible repeat (first | refine zM ?_ _ | refine zN ?_ | refine zO ?_ _)); refine blk_put (cs := #[.int .i64 t298, .int .i64 t299, .slice none 0 0]) ?_ 2 _ rfl; (with_reducible repeat (first | refine zM ?_ _ | refine zN ?_ | refine zO ?_ _)); refine blk_put (cs := #[.int .i64 t298, .int .i64 0, .slice none 0 0]) ?_ 1 _ rfl; (with_reducible repeat (first | refine zM ?_ _ | refine zN ?_ | refine zO ?_ _)); refine blk_put (cs := #[.int .i64 0, .int .i64 0, .slice none 0 0]) ?_ 0 _ rfl; (with_reducible repeat (first | refine zM ?_ _ | refine zN ?_ | refine zO ?_ _)); refine blk_far ?_ NB307_306.out _; (with_reducible repeat (first | refine zM ?_ _ | refine zN ?_ | refine zO ?_ _)); refine blk_far ?_ NB307_306.out _; (with_reducible repeat (first | refine zM ?_ _ | refine zN ?_ | refine zO ?_ _)); refine blk_far ?_ NB307_306.out _; (with_reducible repeat (first | refine zM ?_ _ | refine zN ?_ | refine zO ?_ _)); exact BK307.out) hb); have n7_ := zA (below_step (by repeat (first | (with_reducible first | exact HB.out | apply zR | apply zP | apply zQ | refine zS ?_ (IsS90.ge HI286.out) | refine zS ?_ GE281.out | refine zS ?_ GE282.out | refine zS ?_ GE306.out | refine zS ?_ GE307.out) | exact HB.out)) hb); clear HO297; clear HO302; clear BK281; clear BK282; clear HI286; clear BK306; clear BK307; clear HB; have HO297 := n0_; have HO302 := n1_; have BK281 := n2_; have BK282 := n3_; have HI286 := n4_; have BK306 := n5_; have BK307 := n6_; have HB := n7_; clear n0_ n1_ n2_ n3_ n4_ n5_ n6_ n7_; (try clear hb); (try clear hb2); (try clear hk); (try clear hi)))
     go_roundg k1
     case measure => have := HK1.out; omega
     case rel => exact ⟨(wrap64 (x6_1 + 1)), (x282000_1), (x282001_1), (x283000_1), (x283001_1), (t304), (t305), (by first | rfl | (simp; done) | (simp [*]; done)), H', ⟨by have := HK1.out; omega⟩, ⟨bA_ BK281⟩, ⟨bA_ BK282⟩, ⟨by repeat (first | (with_reducible first | exact HI286.out | apply IsS90.alloc | apply IsS90.drewN | apply IsS90.drew | apply IsS90.set_1 | apply IsS90.set_2 | refine IsS90.far ?_ NB286_281.out _ | refine IsS90.far ?_ NB286_282.out _ | refine IsS90.far ?_ NB286_306.out _ | refine IsS90.far ?_ NB286_307.out _) | exact HI286.out)⟩, ⟨by repeat (first | (with_reducible first | exact HB.out | apply zR | apply zP | apply zQ | refine zS ?_ (IsS90.ge HI286.out) | refine zS ?_ GE281.out | refine zS ?_ GE282.out | refine zS ?_ GE306.out | refine zS ?_ GE307.out) | exact HB.out)⟩⟩
   ·rw [if_neg c6] at H
    have c6b0 : decide (x6_1 < 3) = false := decide_eq_false c6
    clear c6
    obtain ⟨y287, hy287⟩ : ∃ y_ : List Int, y_ = (([5, 5] : List Int)) := ⟨_, rfl⟩
    replace H : (some (2, 1, y287, 2, 1, (([1, 3] : List Int)), 0)) = some (r1, r2, r3, r4, r5, r6, r7) := by first | (rw [hy287]; with_reducible exact H) | (have H2_ := (Option.bind_some _ _).symm.trans H; rw [hy287]; with_reducible exact H2_) | (have H2_ := (Option.bind_some _ _).symm.trans H; with_reducible exact H2_) | with_reducible exact H | (rw [hy287]; exact H) | exact H
    have Ny287 := zA hy287
    clear hy287
    obtain ⟨y290, hy290⟩ : ∃ y_ : List Int, y_ = (([1, 3] : List Int)) := ⟨_, rfl⟩
    replace H : (some (2, 1, y287, 2, 1, y290, 0)) = some (r1, r2, r3, r4, r5, r6, r7) := by first | (rw [hy290]; with_reducible exact H) | (have H2_ := (Option.bind_some _ _).symm.trans H; rw [hy290]; with_reducible exact H2_) | (have H2_ := (Option.bind_some _ _).symm.trans H; with_reducible exact H2_) | with_reducible exact H | (rw [hy290]; exact H) | exact H
    have Ny290 := zA hy290
    clear hy290
    simp only [Option.some.injEq, Prod.mk.injEq] at H
    obtain ⟨rfl, rfl, rfl, rfl, rfl, rfl, rfl⟩ := H
    go_wp2_with (first | ((with_reducible refine gate_dst (N := 29) rfl ?_); refine Kd.R_lit (Kd.int .i64) _ 3 ?hg (N := 29) ?hd (xs := ([5, 5] : List Int)) (inner := [.int .i64 5, .int .i64 5]) (ok := fun _ => True) (okp := fun _ => True) ?hr ?hp (fun _ hk => hk) trivial (Below.refl _ _) (Nat.le_refl _) (by simp) ?_; (case hd => rfl); (case hg => rfl); (case hr => first | (go_simp; done) | (go_simp; rfl)); (case hp => exact (Reps.one (show Kd.M (Kd.int .i64) _ _ _ 5 [.int .i64 5] from rfl) (Reps.one (show Kd.M (Kd.int .i64) _ _ _ 5 [.int .i64 5] from rfl) (Reps.none _ _)))); intro v288 w47 ho48 hb hg_ hnew_; clear hg_ hnew_; (first | rw [← Ny287.out] at ho48 | (simp only [Int.reduceToNat] at ho48; rw [← Ny287.out] at ho48)); have n0_ := zA (Kd.R_lower ho48 (zT (by repeat (first | (with_reducible first | exact HB.out | apply zR | apply zP | apply zQ | refine zS ?_ (IsS90.ge HI286.out) | refine zS ?_ GE281.out | refine zS ?_ GE282.out) | exact HB.out)))); have n1_ := zA (zU (g := gb281) (o := .cells #[.int .i64 x282000_1, .int .i64 x282001_1, .slice none 0 0] 26 (0, 0)) (bA_ BK281) hb); have n2_ := zA (zU (g := gb282) (o := .cells #[.int .i64 x283000_1, .int .i64 x283001_1, .slice none 0 0] 26 (0, 0)) (bA_ BK282) hb); have n3_ := zA (IsS90.below (by repeat (first | (with_reducible first | exact HI286.out | apply IsS90.alloc | apply IsS90.drewN | apply IsS90.drew | apply IsS90.set_1 | apply IsS90.set_2 | refine IsS90.far ?_ NB286_281.out _ | refine IsS90.far ?_ NB286_282.out _) | exact HI286.out)) hb); have n4_ := zA (below_step (by repeat (first | (with_reducible first | exact HB.out | apply zR | apply zP | apply zQ | refine zS ?_ (IsS90.ge HI286.out) | refine zS ?_ GE281.out | refine zS ?_ GE282.out) | exact HB.out)) hb); clear BK281; clear BK282; clear HI286; clear HB; have HO289 := n0_; have BK281 := n1_; have BK282 := n2_; have HI286 := n3_; have HB := n4_; clear n0_ n1_ n2_ n3_ n4_; clear hb ho48; obtain ⟨Ao49, co49, eo49⟩ := Kd.R_slice HO289.out; subst eo49) | ((with_reducible refine gate_dst (N := 31) rfl ?_); refine Kd.R_lit (Kd.int .i64) _ 3 ?hg (N := 31) ?hd (xs := ([1, 3] : List Int)) (inner := [.int .i64 1, .int .i64 3]) (ok := fun _ => True) (okp := fun _ => True) ?hr ?hp (fun _ hk => hk) trivial (Below.refl _ _) (Nat.le_refl _) (by simp) ?_; (case hd => rfl); (case hg => rfl); (case hr => first | (go_simp; done) | (go_simp; rfl)); (case hp => exact (Reps.one (show Kd.M (Kd.int .i64) _ _ _ 1 [.int .i64 1] from rfl) (Reps.one (show Kd.M (Kd.int .i64) _ _ _ 3 [.int .i64 3] from rfl) (Reps.none _ _)))); intro v291 w50 ho51 hb hg_ hnew_; clear hg_ hnew_; (first | rw [← Ny290.out] at ho51 | (simp only [Int.reduceToNat] at ho51; rw [← Ny290.out] at ho51)); have n0_ := zA (Kd.R_elder' (bC_ HO289) (Kd.R_base ho51) hb); have n1_ := zA (Kd.R_lower (Kd.R_new' ho51 (Kd.R_lt (bC_ HO289))) (zT (by repeat (first | (with_reducible first | exact HB.out | apply zR | apply zP | apply zQ | refine zS ?_ (IsS90.ge HI286.out) | refine zS ?_ GE281.out | refine zS ?_ GE282.out) | exact HB.out)))); have n2_ := zA (zU (g := gb281) (o := .cells #[.int .i64 x282000_1, .int .i64 x282001_1, .slice none 0 0] 26 (0, 0)) (bA_ BK281) hb); have n3_ := zA (zU (g := gb282) (o := .cells #[.int .i64 x283000_1, .int .i64 x283001_1, .slice none 0 0] 26 (0, 0)) (bA_ BK282) hb); have n4_ := zA (IsS90.below (by repeat (first | (with_reducible first | exact HI286.out | apply IsS90.alloc | apply IsS90.drewN | apply IsS90.drew | apply IsS90.set_1 | apply IsS90.set_2 | refine IsS90.far ?_ NB286_281.out _ | refine IsS90.far ?_ NB286_282.out _) | exact HI286.out)) hb); have n5_ := zA (below_step (by repeat (first | (with_reducible first | exact HB.out | apply zR | apply zP | apply zQ | refine zS ?_ (IsS90.ge HI286.out) | refine zS ?_ GE281.out | refine zS ?_ GE282.out) | exact HB.out)) hb); clear HO289; clear BK281; clear BK282; clear HI286; clear HB; have HO289 := n0_; have HO292 := n1_; have BK281 := n2_; have BK282 := n3_; have HI286 := n4_; have HB := n5_; clear n0_ n1_ n2_ n3_ n4_ n5_; clear hb ho51; obtain ⟨Ao52, co52, eo52⟩ := Kd.R_slice HO292.out; subst eo52; have hnb53 := NB281_282.out; have hnc53 := NB282_281.out; have hnb54 := NB281_286.out; have hnc54 := NB286_281.out; have hcz55_0 : w50.cell? ⟨gb281, 0, none⟩ = some (.int .i64 x282000_1) := (blk_cell BK281.out 0).trans rfl; have hcz55_1 : w50.cell? ⟨gb281, 1, none⟩ = some (.int .i64 x282001_1) := (blk_cell BK281.out 1).trans rfl; have hcz55_2 : w50.cell? ⟨gb281, 2, none⟩ = some (.slice none 0 0) := (blk_cell BK281.out 2).trans rfl; have hfz55_0 := blk_frozen BK281.out 0; have hfz55_1 := blk_frozen BK281.out 1; have hfz55_2 := blk_frozen BK281.out 2; have hnb56 := NB282_286.out; have hnc56 := NB286_282.out; have hcz57_0 : w50.cell? ⟨gb282, 0, none⟩ = some (.int .i64 x283000_1) := (blk_cell BK282.out 0).trans rfl; have hcz57_1 : w50.cell? ⟨gb282, 1, none⟩ = some (.int .i64 x283001_1) := (blk_cell BK282.out 1).trans rfl; have hcz57_2 : w50.cell? ⟨gb282, 2, none⟩ = some (.slice none 0 0) := (blk_cell BK282.out 2).trans rfl; have hfz57_0 := blk_frozen BK282.out 0; have hfz57_1 := blk_frozen BK282.out 1; have hfz57_2 := blk_frozen BK282.out 2))
    refine bodyPost_ret (results_list (rs := [.cell 2 26, .cell 3 26, .tmp 4]) rfl (by simp) (.cell gb281 26 #[.int .i64 2, .int .i64 1, .slice Ao49 y287.length co49] (0, 0) _ rfl (by (with_reducible repeat (first | refine zM ?_ _ | refine zN ?_ | refine zO ?_ _)); refine blk_far ?_ NB281_282.out _; (with_reducible repeat (first | refine zM ?_ _ | refine zN ?_ | refine zO ?_ _)); refine blk_far ?_ NB281_282.out _; (with_reducible repeat (first | refine zM ?_ _ | refine zN ?_ | refine zO ?_ _)); refine blk_far ?_ NB281_282.out _; (with_reducible repeat (first | refine zM ?_ _ | refine zN ?_ | refine zO ?_ _)); refine blk_put (cs := #[.int .i64 2, .int .i64 1, .slice none 0 0]) ?_ 2 _ rfl; (with_reducible repeat (first | refine zM ?_ _ | refine zN ?_ | refine zO ?_ _)); refine blk_put (cs := #[.int .i64 2, .int .i64 x282001_1, .slice none 0 0]) ?_ 1 _ rfl; (with_reducible repeat (first | refine zM ?_ _ | refine zN ?_ | refine zO ?_ _)); refine blk_put (cs := #[.int .i64 x282000_1, .int .i64 x282001_1, .slice none 0 0]) ?_ 0 _ rfl; (with_reducible repeat (first | refine zM ?_ _ | refine zN ?_ | refine zO ?_ _)); exact BK281.out) Try.underlying26 rfl (by kernel_rfl) (.cell gb282 26 #[.int .i64 2, .int .i64 1, .slice Ao52 y290.length co52] (0, 0) _ rfl (by (with_reducible repeat (first | refine zM ?_ _ | refine zN ?_ | refine zO ?_ _)); refine blk_put (cs := #[.int .i64 2, .int .i64 1, .slice none 0 0]) ?_ 2 _ rfl; (with_reducible repeat (first | refine zM ?_ _ | refine zN ?_ | refine zO ?_ _)); refine blk_put (cs := #[.int .i64 2, .int .i64 x283001_1, .slice none 0 0]) ?_ 1 _ rfl; (with_reducible repeat (first | refine zM ?_ _ | refine zN ?_ | refine zO ?_ _)); refine blk_put (cs := #[.int .i64 x283000_1, .int .i64 x283001_1, .slice none 0 0]) ?_ 0 _ rfl; (with_reducible repeat (first | refine zM ?_ _ | refine zN ?_ | refine zO ?_ _)); refine blk_far ?_ NB282_281.out _; (with_reducible repeat (first | refine zM ?_ _ | refine zN ?_ | refine zO ?_ _)); refine blk_far ?_ NB282_281.out _; (with_reducible repeat (first | refine zM ?_ _ | refine zN ?_ | refine zO ?_ _)); refine blk_far ?_ NB282_281.out _; (with_reducible repeat (first | refine zM ?_ _ | refine zN ?_ | refine zO ?_ _)); exact BK282.out) Try.underlying26 rfl (by kernel_rfl) (.tmp .nil)))) rfl ?_
    exact ⟨_, _, by first | rfl | (simp [errW_none, errW_some] <;> rfl) | (simp [*, errW_none, errW_some] <;> rfl), Kd.Q_of_R (by (with_reducible repeat (first | apply zF | apply zE | apply Kd.R_drew)); exact Kd.R_mono (Kd.R_far (p := ⟨gb282, 2, none⟩) (Kd.R_far (p := ⟨gb282, 1, none⟩) (Kd.R_far (p := ⟨gb282, 0, none⟩) (Kd.R_far (p := ⟨gb281, 2, none⟩) (Kd.R_far (p := ⟨gb281, 1, none⟩) (Kd.R_far (p := ⟨gb281, 0, none⟩) (Kd.R_types (Kd.R_types HO289.out BK281.out (by decide)) BK282.out (by decide)) (fun _ hk => hk.1.2) (.int .i64 2)) (fun _ hk => hk.1.2) (.int .i64 1)) (fun _ hk => hk.1.2) (.slice Ao49 y287.length co49)) (fun _ hk => hk.2) (.int .i64 2)) (fun _ hk => hk.2) (.int .i64 1)) (fun _ hk => hk.2) (.slice Ao52 y290.length co52)) (fun _ hk => hk.1.1.2)), Kd.Q_of_R (by (with_reducible repeat (first | apply zF | apply zE | apply Kd.R_drew)); exact Kd.R_mono (Kd.R_far (p := ⟨gb282, 2, none⟩) (Kd.R_far (p := ⟨gb282, 1, none⟩) (Kd.R_far (p := ⟨gb282, 0, none⟩) (Kd.R_far (p := ⟨gb281, 2, none⟩) (Kd.R_far (p := ⟨gb281, 1, none⟩) (Kd.R_far (p := ⟨gb281, 0, none⟩) (Kd.R_types (Kd.R_types HO292.out BK281.out (by decide)) BK282.out (by decide)) (fun _ hk => hk.1.2) (.int .i64 2)) (fun _ hk => hk.1.2) (.int .i64 1)) (fun _ hk => hk.1.2) (.slice Ao49 y287.length co49)) (fun _ hk => hk.2) (.int .i64 2)) (fun _ hk => hk.2) (.int .i64 1)) (fun _ hk => hk.2) (.slice Ao52 y290.length co52)) (fun _ hk => hk.1.1.2)), by repeat (first | (with_reducible first | exact HB.out | apply zR | apply zP | apply zQ | refine zS ?_ (IsS90.ge HI286.out) | refine zS ?_ GE281.out | refine zS ?_ GE282.out) | exact HB.out)⟩

end Go.Proofs.Ytgmbbcnfcddamaa.PFnContour
