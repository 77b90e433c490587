/- Written for this claim by a program of this session: the functions that the law reaches, each with its contract. -/
import Derived.Test.YtnbkdfnlggmopaaPFnExactSketchMovex0
import Derived.Test.YtnbkdfnlggmopaaPFnExactSketchMovex5
namespace Go.Proofs.Ytnbkdfnlggmopaa.PFnExactSketchMove
open Go.RowKit Go.Proofs.YtnbkdfnlggmopaaW.PrintWords Go.Proofs.YtnbkdfnlggmopaaW.PrintLast Go.Proofs.YtnbkdfnlggmopaaW.PrintMore
open Go.Proofs.YtnbkdfnlggmopaaW.PrintWords.Aside0 renaming mk → zA
open List renaming setIfInBounds_toArray → zB, set_cons_zero → zC, set_cons_succ → zD
open Go.Proofs.YtnbkdfnlggmopaaW.PrintWords.Kd renaming R_drewN → zE, R_alloc → zF, R_drew → zG, C_drewN → zH, C_alloc → zI, C_drew → zJ, R_reads' → zK, R_below → zL
open Go.Proofs.YtnbkdfnlggmopaaW.PrintWords renaming blk_drewN → zM, blk_drew → zN, blk_alloc → zO, below_size → zT, blk_below → zU
attribute [local go_sem] i64_w max2_int min2_int max_two min_two max_three min_three max_four min_four
set_option linter.unusedVariables false
set_option linter.unusedSimpArgs false

def impl_SketchMove.f (k : Nat) (a0_0 : Int) (l0_1 : List (S35)) (a1 : Int) (a2_0 : Int) (a2_1 : Int) : Option ((List (S48)) × Int × List Int) := if ([] : List (S35)).length + l0_1.length < 4398046511104 then ((some (([] : List (S35)) ++ l0_1 : List (S35))).bind fun y212 => ((some (([(⟨1, a1, 0, a2_0⟩ : S35), (⟨2, a1, 0, a2_1⟩ : S35)] : List (S35)) : List (S35))).bind fun y216 => (if y212.length + y216.length < 4398046511104 then ((impl_SketchSolve.f k a0_0 (y212 ++ y216)).bind fun bt222 => (some (bt222.1, bt222.2.1, bt222.2.2))) else (none)))) else (none)
theorem impl_SketchMove.mono : ∀ a0 a1 a2 a3 a4 k, LeO (impl_SketchMove.f k a0 a1 a2 a3 a4) (impl_SketchMove.f (k + 1) a0 a1 a2 a3 a4) := by
 intro a0 a1 a2 a3 a4 k
 unfold impl_SketchMove.f
 repeat' first
   | (with_reducible exact impl_SketchSolve.mono _ _ _)
   | (with_reducible exact LeO.refl _)
   | (with_reducible exact LeO.none _)
   | (with_reducible refine LeO.ite ?_ ?_)
   | (with_reducible refine LeO.bind ?_ (fun _ => ?_))
   | exact impl_SketchSolve.mono _ _ _
   | exact LeO.none _
   | refine LeO.ite ?_ ?_
   | refine LeO.bind ?_ (fun _ => ?_)
def impl_SketchMove.T1 : Bool × List (List Nat × List Nat) := (true, [([], []), ([0], [0]), ([], []), ([2], [2]), ([3], [3]), ([1, 4], [1, 4]), ([], []), ([6, 5, 4, 0, 1, 2, 3, 4, 5, 6], [5, 6])])
def impl_SketchMove.B1 : List Nat := [0, 1, 0, 4, 12, 31, 0, 127]
theorem impl_SketchMove.tab1 : rtab .any (opsOf Try.f21 1) = impl_SketchMove.T1 := by kernel_rfl
theorem impl_SketchMove.bits1 : waitsOk impl_SketchMove.T1.2 impl_SketchMove.B1 = true := by kernel_rfl
set_option maxHeartbeats 8000000 in
set_option maxRecDepth 100000 in
theorem impl_SketchMove.calls (k : Nat) (a0_0 : Int) (A0_1 : Option Addr) (c0_1 : Nat) (l0_1 : List (S35)) (a1 : Int) (a2_0 : Int) (a2_1 : Int) (r1 : List (S48)) (r2 : Int) (r3 : List Int) (w : World) (hr0_1 : Kd.C k35 w A0_1 l0_1.length l0_1) (hc0_1 : l0_1.length ≤ c0_1) (h : impl_SketchMove.f k a0_0 l0_1 a1 a2_0 a2_1 = some (r1, r2, r3)) :
  Calls Try.prog 21 #[.agg #[.int .i64 a0_0, .slice A0_1 l0_1.length c0_1], .int .i64 a1, .agg #[.int .i64 a2_0, .int .i64 a2_1]] w fun e w' => ∃ v0_ v2_ : Value, e = .returned (.tuple #[v0_, .int .i64 r2, v2_]) ∧ Kd.R k48 48 w' w.heap.size (fun _ => True) v0_ r1 ∧ Kd.R (Kd.int .i64) 3 w' w.heap.size (fun _ => True) v2_ r3 ∧ Below w.heap.size w w' := by
 have hu25 := Try.underlying25
 have hu48 := Try.underlying48
 have hu35 := Try.underlying35
 have HR0_1 := zA hr0_1
 have HC0_1 := zA hc0_1
 clear hr0_1 hc0_1
 have HB := zA (Below.refl w.heap.size w)
 have H : (if ([] : List (S35)).length + l0_1.length < 4398046511104 then ((some (([] : List (S35)) ++ l0_1 : List (S35))).bind fun y212 => ((some (([(⟨1, a1, 0, a2_0⟩ : S35), (⟨2, a1, 0, a2_1⟩ : S35)] : List (S35)) : List (S35))).bind fun y216 => (if y212.length + y216.length < 4398046511104 then ((impl_SketchSolve.f k a0_0 (y212 ++ y216)).bind fun bt222 => (some (bt222.1, bt222.2.1, bt222.2.2))) else (none)))) else (none)) = some (r1, r2, r3) := h
 clear h
 by_cases c4 : ([] : List (S35)).length + l0_1.length < 4398046511104
 ·rw [if_pos c4] at H
  have LMc4 := zA c4
  clear c4
  obtain ⟨y212, hy212⟩ : ∃ y_ : List (S35), y_ = (([] : List (S35)) ++ l0_1) := ⟨_, rfl⟩
  replace H : ((some (([(⟨1, a1, 0, a2_0⟩ : S35), (⟨2, a1, 0, a2_1⟩ : S35)] : List (S35)) : List (S35))).bind fun y216 => (if y212.length + y216.length < 4398046511104 then ((impl_SketchSolve.f k a0_0 (y212 ++ y216)).bind fun bt222 => (some (bt222.1, bt222.2.1, bt222.2.2))) else (none))) = some (r1, r2, r3) := by first | (rw [hy212]; with_reducible exact H) | (have H2_ := (Option.bind_some _ _).symm.trans H; rw [hy212]; with_reducible exact H2_) | (have H2_ := (Option.bind_some _ _).symm.trans H; with_reducible exact H2_) | with_reducible exact H | (rw [hy212]; exact H) | exact H
  have Ny212 := zA hy212
  clear hy212
  obtain ⟨y216, hy216⟩ : ∃ y_ : List (S35), y_ = (([(⟨1, a1, 0, a2_0⟩ : S35), (⟨2, a1, 0, a2_1⟩ : S35)] : List (S35))) := ⟨_, rfl⟩
  replace H : (if y212.length + y216.length < 4398046511104 then ((impl_SketchSolve.f k a0_0 (y212 ++ y216)).bind fun bt222 => (some (bt222.1, bt222.2.1, bt222.2.2))) else (none)) = some (r1, r2, r3) := by first | (rw [hy216]; with_reducible exact H) | (have H2_ := (Option.bind_some _ _).symm.trans H; rw [hy216]; with_reducible exact H2_) | (have H2_ := (Option.bind_some _ _).symm.trans H; with_reducible exact H2_) | with_reducible exact H | (rw [hy216]; exact H) | exact H
  have Ny216 := zA hy216
  clear hy216
  by_cases c5 : y212.length + y216.length < 4398046511104
  ·rw [if_pos c5] at H
   have LMc5 := zA c5
   clear c5
   obtain ⟨y219, hy219⟩ : ∃ y_ : List (S35), y_ = (y212 ++ y216) := ⟨_, rfl⟩
   replace H : ((impl_SketchSolve.f k a0_0 y219).bind fun bt222 => (some (bt222.1, bt222.2.1, bt222.2.2))) = some (r1, r2, r3) := by first | (rw [hy219]; with_reducible exact H) | (have H2_ := (Option.bind_some _ _).symm.trans H; rw [hy219]; with_reducible exact H2_) | (have H2_ := (Option.bind_some _ _).symm.trans H; with_reducible exact H2_) | with_reducible exact H | (rw [hy219]; exact H) | exact H
   have Ny219 := zA hy219
   clear hy219
   replace H := Option.bind_eq_some_iff.mp H
   obtain ⟨⟨t222, t225, t226⟩, A60, H⟩ := H
   replace H : (some (t222, t225, t226)) = some (r1, r2, r3) := H
   have A6 := zA A60
   clear A60
   simp only [Option.some.injEq, Prod.mk.injEq] at H
   obtain ⟨rfl, rfl, rfl⟩ := H
   go_enter Try.func21, Try.ntmps21
   try go_wp2_with (first | ((with_reducible refine gate_dst (N := 3) rfl ?_); refine box_event ?hg (N := 3) ?hd (cs := #[.int .i64 a0_0, .slice A0_1 l0_1.length c0_1]) (t := 25) ?hr ?_; (case hd => rfl); (case hg => rfl); (case hr => first | (go_simp; done) | (go_simp; rfl)); intro gb210 hg w7 hbox hb; have n0_ := zA (below_step (bB_ HB) hb); have n1_ := zA (hbox); have n2_ := zA ((by rw [hg]; exact (zT (bB_ HB)) : w.heap.size ≤ gb210)); have n3_ := zA ((by rw [hg]; exact (zT (bB_ HB)) : w.heap.size ≤ gb210)); clear HB; have HB := n0_; have BK210 := n1_; have GW210 := n2_; have GE210 := n3_; clear n0_ n1_ n2_ n3_; clear hb hbox hg) | ((with_reducible refine gate_dst (N := 5) rfl ?_); refine box_event ?hg (N := 5) ?hd (cs := #[.int .i64 a2_0, .int .i64 a2_1]) (t := 48) ?hr ?_; (case hd => rfl); (case hg => rfl); (case hr => first | (go_simp; done) | (go_simp; rfl)); intro gb211 hg w8 hbox hb; have n0_ := zA (zU (g := gb210) (o := .cells #[.int .i64 a0_0, .slice A0_1 l0_1.length c0_1] 25 (0, 0)) (bA_ BK210) hb); have n1_ := zA (below_step (bB_ HB) hb); have n2_ := zA (hbox); have n3_ := zA ((by rw [hg]; exact (zT (bB_ HB)) : w.heap.size ≤ gb211)); have n4_ := zA ((by rw [hg]; exact (zT (bB_ HB)) : w.heap.size ≤ gb211)); have n5_ := zA ((by rw [hg]; exact Nat.ne_of_lt (blk_lt (g := gb210) (o := .cells #[.int .i64 a0_0, .slice A0_1 l0_1.length c0_1] 25 (0, 0)) (bA_ BK210)) : gb210 ≠ gb211)); have n6_ := zA ((by rw [hg]; exact Nat.ne_of_gt (blk_lt (g := gb210) (o := .cells #[.int .i64 a0_0, .slice A0_1 l0_1.length c0_1] 25 (0, 0)) (bA_ BK210)) : gb211 ≠ gb210)); clear BK210; clear HB; have BK210 := n0_; have HB := n1_; have BK211 := n2_; have GW211 := n3_; have GE211 := n4_; have NB210_211 := n5_; have NB211_210 := n6_; clear n0_ n1_ n2_ n3_ n4_ n5_ n6_; clear hb hbox hg))
   have n0_ := zA (zN BK210.out)
   have n1_ := zA (zN BK211.out)
   have n2_ := zA (below_drew1 HB.out)
   clear BK210
   clear BK211
   clear HB
   have BK210 := n0_
   have BK211 := n1_
   have HB := n2_
   clear n0_ n1_ n2_
   refine start_ (n := 8) (S := fun w' => w'.cell? ⟨gb210, 0, none⟩ = some (.int .i64 a0_0) ∧ w'.cell? ⟨gb210, 1, none⟩ = some (.slice A0_1 l0_1.length c0_1)) (ds := []) #[false, false, false, false, false, false, false, false] (by kernel_rfl) rfl rfl ⟨(blk_cell BK210.out 0).trans rfl, (blk_cell BK210.out 1).trans rfl⟩ (fun hHeld => ?_); refine with_tabW impl_SketchMove.tab1 impl_SketchMove.bits1 (fun HT_ HW_ => ?_)
   generalize w8.drew = w9 at BK210 BK211 HB hHeld ⊢
   refine pure_ (i := 0) (N := some 10) (v := ?_) (a' := ?_) #[true, false, false, false, false, false, false, false] rfl rfl (any_of HT_.out (by kernel_rfl)) (fun _ _ _ h => h) (Or.inl ⟨by rfl, ?_⟩) ?_ ?_
   rotate_left
   ·intro w'
    go_simp
    with_reducible rfl
   rotate_left
   ·simp only [Act.put, zB, zC, zD, i64_w, i32_w]
    rfl
   refine pure_ (i := 2) (N := some 12) (v := ?_) (a' := ?_) #[true, false, true, false, false, false, false, false] rfl rfl (any_of HT_.out (by kernel_rfl)) (fun _ _ _ h => h) (Or.inl ⟨by rfl, ?_⟩) ?_ ?_
   rotate_left
   ·intro w'
    go_simp
    with_reducible rfl
   rotate_left
   ·simp only [Act.put, zB, zC, zD, i64_w, i32_w]
    rfl
   refine take_ (i := 1) (N := some 11) (v := ?_) (a' := ?_) #[true, true, true, false, false, false, false, false] rfl rfl (take_ofW HT_.out HW_.out (by kernel_rfl)) (fun _ _ _ h => h) (Or.inl ⟨by rfl, ?_⟩) hHeld ?_ ?_
   rotate_left
   ·rintro w' ⟨s0, s1⟩
    go_simp
    with_reducible rfl
   rotate_left
   ·simp only [Act.put, zB, zC, zD, i64_w, i32_w]
    rfl
   refine take_ (i := 3) (N := some 13) (v := ?_) (a' := ?_) #[true, true, true, true, false, false, false, false] rfl rfl (take_ofW HT_.out HW_.out (by kernel_rfl)) (fun _ _ _ h => h) (Or.inl ⟨by rfl, ?_⟩) hHeld ?_ ?_
   rotate_left
   ·rintro w' ⟨s0, s1⟩
    go_simp
    with_reducible rfl
   rotate_left
   ·simp only [Act.put, zB, zC, zD, i64_w, i32_w]
    rfl
   refine join_ (σ := Value × Nat) 1 #[true, true, true, true, true, true, true, false] (fun s_ => [(14, s_.1), (9, .pointer (some ⟨s_.2, 0, none⟩)), (15, .agg #[.int .i64 a0_0, s_.1])]) (fun s_ w' => (w'.cell? ⟨gb210, 0, none⟩ = some (.int .i64 a0_0) ∧ w'.cell? ⟨gb210, 1, none⟩ = some (.slice A0_1 l0_1.length c0_1)) ∧ (Kd.R k35 35 w' w.heap.size (fun _ => True) s_.1 y212) ∧ (w'.heap[gb210]? = some (.cells #[.int .i64 a0_0, .slice A0_1 l0_1.length c0_1] 25 (0, 0))) ∧ (w'.heap[gb211]? = some (.cells #[.int .i64 a2_0, .int .i64 a2_1] 48 (0, 0))) ∧ (w'.heap[s_.2]? = some (.cells #[.int .i64 0, .slice none 0 0] 25 (0, 0))) ∧ (w.heap.size ≤ s_.2) ∧ (w.heap.size ≤ s_.2) ∧ (gb210 ≠ s_.2) ∧ (s_.2 ≠ gb210) ∧ (gb211 ≠ s_.2) ∧ (s_.2 ≠ gb211) ∧ (Below w.heap.size w w')) ?_ ?_
   rotate_left
   ·intro hCont
    refine two_ (i := 4) (j := 6) (Ni := some 14) (Nj := some 9) #[true, true, true, true, true, false, false, false] #[true, true, true, true, false, false, true, false] rfl rfl rfl rfl (two_of HT_.out (by kernel_rfl)) (by decide) (by decide) (fun K hK => ?_) (fun K hK => ?_)
    ·skip
     refine Kd.R_append_rows_step k35 (w0 := w) w.heap.size (by rfl) (.const (.slice none 0 0)) (.tmp 13) 23 35 (.agg #[(.int .i64 0), (.int .i64 0), (.int .i64 0), (.int .i64 0)]) 32 rfl Try.underlying23 info35 rfl (by decide) (by omega) (.slice none 0 0) ([] : List (S35)) l0_1 _ _ _ (fun _ => True) (fun _ => False) rfl rfl ?aO ?aR (fun _ _ h => h) (fun _ h => h.elim) ?aF ?aB ?aS ?aL ?_
     (case aR => repeat (first | exact (Kd.C_below HR0_1.out HB.out) | (with_reducible refine zI ?_ _) | (with_reducible refine zH ?_ _) | (with_reducible refine zJ ?_)))
     (case aB => exact (bB_ HB))
     (case aF => exact (fun _ _ => trivial))
     (case aO => exact ((Kd.R_nil _ _ _ _ (fun _ => True))))
     (case aS => exact (zT (bB_ HB)))
     (case aL => have := LMc4.out; omega)
     intro v213 w10 ho hb hg hat
     rw [← Ny212.out] at ho
     have n0_ := zA (blk_grown (g := gb210) (o := .cells #[.int .i64 a0_0, .slice A0_1 l0_1.length c0_1] 25 (0, 0)) (bA_ BK210) hg (by simp [Value.ownBlock]))
     have n1_ := zA (blk_grown (g := gb211) (o := .cells #[.int .i64 a2_0, .int .i64 a2_1] 48 (0, 0)) (bA_ BK211) hg (by simp [Value.ownBlock]))
     have n2_ := zA (hb)
     have n3_ := zA (ho)
     clear BK210
     clear BK211
     clear HB
     have BK210 := n0_
     have BK211 := n1_
     have HB := n2_
     have HO214 := n3_
     clear n0_ n1_ n2_ n3_
     clear ho hb hg hat
     obtain ⟨Ao11, co11, eo11⟩ := Kd.R_slice HO214.out
     (first | subst eo11 | (injection eo11 with f1_ f2_ f3_; have f4_ := f1_.symm; have f5_ := f3_.symm; clear f1_ f2_ f3_; subst f4_; subst f5_))
     refine hK.out _ _ ⟨(blk_cell BK210.out 0).trans rfl, (blk_cell BK210.out 1).trans rfl⟩ (fun hHeld => ?_)
     clear hK K
     refine norm_ (a' := ?_) ?_ ?_
     rotate_left
     ·show Act.put _ (some 14) _ = _
      simp only [Act.put, zB, zC, zD, i64_w, i32_w]
      rfl
     refine pure_ (i := 5) (N := some 15) (v := ?_) (a' := ?_) #[true, true, true, true, true, true, false, false] rfl rfl (any_of HT_.out (by kernel_rfl)) (fun _ _ _ h => h) (Or.inl ⟨by rfl, ?_⟩) ?_ ?_
     rotate_left
     ·intro w'
      go_simp
      with_reducible rfl
     rotate_left
     ·simp only [Act.put, zB, zC, zD, i64_w, i32_w]
      rfl
     refine one_ (i := 6) (N := some 9) #[true, true, true, true, true, true, true, false] rfl rfl (one_of HT_.out (by kernel_rfl)) (by decide) (fun K hK => ?_)
     refine box_step ?hg (N := 9) ?hd (cs := #[.int .i64 0, .slice none 0 0]) (t := 25) ?hr ?_; (case hd => rfl); (case hg => rfl); (case hr => first | (go_simp; done) | (go_simp; rfl))
     intro gb215 hg w12 hbox hb
     have n0_ := zA (zL (bC_ HO214) hb)
     have n1_ := zA (zU (g := gb210) (o := .cells #[.int .i64 a0_0, .slice A0_1 l0_1.length c0_1] 25 (0, 0)) (bA_ BK210) hb)
     have n2_ := zA (zU (g := gb211) (o := .cells #[.int .i64 a2_0, .int .i64 a2_1] 48 (0, 0)) (bA_ BK211) hb)
     have n3_ := zA (below_step (bB_ HB) hb)
     have n4_ := zA (hbox)
     have n5_ := zA ((by rw [hg]; exact (zT (bB_ HB)) : w.heap.size ≤ gb215))
     have n6_ := zA ((by rw [hg]; exact (zT (bB_ HB)) : w.heap.size ≤ gb215))
     have n7_ := zA ((by rw [hg]; exact Nat.ne_of_lt (blk_lt (g := gb210) (o := .cells #[.int .i64 a0_0, .slice A0_1 l0_1.length c0_1] 25 (0, 0)) (bA_ BK210)) : gb210 ≠ gb215))
     have n8_ := zA ((by rw [hg]; exact Nat.ne_of_gt (blk_lt (g := gb210) (o := .cells #[.int .i64 a0_0, .slice A0_1 l0_1.length c0_1] 25 (0, 0)) (bA_ BK210)) : gb215 ≠ gb210))
     have n9_ := zA ((by rw [hg]; exact Nat.ne_of_lt (blk_lt (g := gb211) (o := .cells #[.int .i64 a2_0, .int .i64 a2_1] 48 (0, 0)) (bA_ BK211)) : gb211 ≠ gb215))
     have n10_ := zA ((by rw [hg]; exact Nat.ne_of_gt (blk_lt (g := gb211) (o := .cells #[.int .i64 a2_0, .int .i64 a2_1] 48 (0, 0)) (bA_ BK211)) : gb215 ≠ gb211))
     clear HO214
     clear BK210
     clear BK211
     clear HB
     have HO214 := n0_
     have BK210 := n1_
     have BK211 := n2_
     have HB := n3_
     have BK215 := n4_
     have GW215 := n5_
     have GE215 := n6_
     have NB210_215 := n7_
     have NB215_210 := n8_
     have NB211_215 := n9_
     have NB215_211 := n10_
     clear n0_ n1_ n2_ n3_ n4_ n5_ n6_ n7_ n8_ n9_ n10_
     clear hb hbox hg
     refine hK.out _ _ ⟨(blk_cell BK210.out 0).trans rfl, (blk_cell BK210.out 1).trans rfl⟩ (fun hHeld => ?_)
     clear hK K
     refine norm_ (a' := ?_) ?_ ?_
     rotate_left
     ·show Act.put _ (some 9) _ = _
      simp only [Act.put, zB, zC, zD, i64_w, i32_w]
      rfl
     exact norm_ (by simp only [putAll, Act.put, zB, zC, zD]) (hCont (.slice Ao11 y212.length co11, gb215) _ ⟨hHeld, (bC_ HO214), (bA_ BK210), (bA_ BK211), (bA_ BK215), GW215.out, GE215.out, NB210_215.out, NB215_210.out, NB211_215.out, NB215_211.out, (bB_ HB)⟩)
    ·skip
     refine box_step ?hg (N := 9) ?hd (cs := #[.int .i64 0, .slice none 0 0]) (t := 25) ?hr ?_; (case hd => rfl); (case hg => rfl); (case hr => first | (go_simp; done) | (go_simp; rfl))
     intro gb215 hg w10 hbox hb
     have n0_ := zA (zU (g := gb210) (o := .cells #[.int .i64 a0_0, .slice A0_1 l0_1.length c0_1] 25 (0, 0)) (bA_ BK210) hb)
     have n1_ := zA (zU (g := gb211) (o := .cells #[.int .i64 a2_0, .int .i64 a2_1] 48 (0, 0)) (bA_ BK211) hb)
     have n2_ := zA (below_step (bB_ HB) hb)
     have n3_ := zA (hbox)
     have n4_ := zA ((by rw [hg]; exact (zT (bB_ HB)) : w.heap.size ≤ gb215))
     have n5_ := zA ((by rw [hg]; exact (zT (bB_ HB)) : w.heap.size ≤ gb215))
     have n6_ := zA ((by rw [hg]; exact Nat.ne_of_lt (blk_lt (g := gb210) (o := .cells #[.int .i64 a0_0, .slice A0_1 l0_1.length c0_1] 25 (0, 0)) (bA_ BK210)) : gb210 ≠ gb215))
     have n7_ := zA ((by rw [hg]; exact Nat.ne_of_gt (blk_lt (g := gb210) (o := .cells #[.int .i64 a0_0, .slice A0_1 l0_1.length c0_1] 25 (0, 0)) (bA_ BK210)) : gb215 ≠ gb210))
     have n8_ := zA ((by rw [hg]; exact Nat.ne_of_lt (blk_lt (g := gb211) (o := .cells #[.int .i64 a2_0, .int .i64 a2_1] 48 (0, 0)) (bA_ BK211)) : gb211 ≠ gb215))
     have n9_ := zA ((by rw [hg]; exact Nat.ne_of_gt (blk_lt (g := gb211) (o := .cells #[.int .i64 a2_0, .int .i64 a2_1] 48 (0, 0)) (bA_ BK211)) : gb215 ≠ gb211))
     clear BK210
     clear BK211
     clear HB
     have BK210 := n0_
     have BK211 := n1_
     have HB := n2_
     have BK215 := n3_
     have GW215 := n4_
     have GE215 := n5_
     have NB210_215 := n6_
     have NB215_210 := n7_
     have NB211_215 := n8_
     have NB215_211 := n9_
     clear n0_ n1_ n2_ n3_ n4_ n5_ n6_ n7_ n8_ n9_
     clear hb hbox hg
     refine hK.out _ _ ⟨(blk_cell BK210.out 0).trans rfl, (blk_cell BK210.out 1).trans rfl⟩ (fun hHeld => ?_)
     clear hK K
     refine norm_ (a' := ?_) ?_ ?_
     rotate_left
     ·show Act.put _ (some 9) _ = _
      simp only [Act.put, zB, zC, zD, i64_w, i32_w]
      rfl
     refine one_ (i := 4) (N := some 14) #[true, true, true, true, true, false, true, false] rfl rfl (one_of HT_.out (by kernel_rfl)) (by decide) (fun K hK => ?_)
     refine Kd.R_append_rows_step k35 (w0 := w) w.heap.size (by rfl) (.const (.slice none 0 0)) (.tmp 13) 23 35 (.agg #[(.int .i64 0), (.int .i64 0), (.int .i64 0), (.int .i64 0)]) 32 rfl Try.underlying23 info35 rfl (by decide) (by omega) (.slice none 0 0) ([] : List (S35)) l0_1 _ _ _ (fun _ => True) (fun _ => False) rfl rfl ?aO ?aR (fun _ _ h => h) (fun _ h => h.elim) ?aF ?aB ?aS ?aL ?_
     (case aR => repeat (first | exact (Kd.C_below HR0_1.out HB.out) | (with_reducible refine zI ?_ _) | (with_reducible refine zH ?_ _) | (with_reducible refine zJ ?_)))
     (case aB => exact (bB_ HB))
     (case aF => exact (fun _ _ => trivial))
     (case aO => exact ((Kd.R_nil _ _ _ _ (fun _ => True))))
     (case aS => exact (zT (bB_ HB)))
     (case aL => have := LMc4.out; omega)
     intro v213 w11 ho hb hg hat
     rw [← Ny212.out] at ho
     have n0_ := zA (blk_grown (g := gb210) (o := .cells #[.int .i64 a0_0, .slice A0_1 l0_1.length c0_1] 25 (0, 0)) (bA_ BK210) hg (by simp [Value.ownBlock]))
     have n1_ := zA (blk_grown (g := gb211) (o := .cells #[.int .i64 a2_0, .int .i64 a2_1] 48 (0, 0)) (bA_ BK211) hg (by simp [Value.ownBlock]))
     have n2_ := zA (blk_grown (g := gb215) (o := .cells #[.int .i64 0, .slice none 0 0] 25 (0, 0)) (bA_ BK215) hg (by simp [Value.ownBlock]))
     have n3_ := zA (hb)
     have n4_ := zA (ho)
     clear BK210
     clear BK211
     clear BK215
     clear HB
     have BK210 := n0_
     have BK211 := n1_
     have BK215 := n2_
     have HB := n3_
     have HO214 := n4_
     clear n0_ n1_ n2_ n3_ n4_
     clear ho hb hg hat
     obtain ⟨Ao12, co12, eo12⟩ := Kd.R_slice HO214.out
     (first | subst eo12 | (injection eo12 with f1_ f2_ f3_; have f4_ := f1_.symm; have f5_ := f3_.symm; clear f1_ f2_ f3_; subst f4_; subst f5_))
     refine hK.out _ _ ⟨(blk_cell BK210.out 0).trans rfl, (blk_cell BK210.out 1).trans rfl⟩ (fun hHeld => ?_)
     clear hK K
     refine norm_ (a' := ?_) ?_ ?_
     rotate_left
     ·show Act.put _ (some 14) _ = _
      simp only [Act.put, zB, zC, zD, i64_w, i32_w]
      rfl
     refine pure_ (i := 5) (N := some 15) (v := ?_) (a' := ?_) #[true, true, true, true, true, true, true, false] rfl rfl (any_of HT_.out (by kernel_rfl)) (fun _ _ _ h => h) (Or.inl ⟨by rfl, ?_⟩) ?_ ?_
     rotate_left
     ·intro w'
      go_simp
      with_reducible rfl
     rotate_left
     ·simp only [Act.put, zB, zC, zD, i64_w, i32_w]
      rfl
     exact norm_ (by simp only [putAll, Act.put, zB, zC, zD]) (hCont (.slice Ao12 y212.length co12, gb215) _ ⟨hHeld, (bC_ HO214), (bA_ BK210), (bA_ BK211), (bA_ BK215), GW215.out, GE215.out, NB210_215.out, NB215_210.out, NB211_215.out, NB215_211.out, (bB_ HB)⟩)
   rintro ⟨v213, gb215⟩ w13 ⟨hS_, h0_, h1_, h2_, h3_, h4_, h5_, h6_, h7_, h8_, h9_, h10_⟩
   have n0_ : Aside0 (Kd.R k35 35 w13 w.heap.size (fun _ => True) v213 y212) := ⟨h0_⟩
   have n1_ : Aside0 (w13.heap[gb210]? = some (.cells #[.int .i64 a0_0, .slice A0_1 l0_1.length c0_1] 25 (0, 0))) := ⟨h1_⟩
   have n2_ : Aside0 (w13.heap[gb211]? = some (.cells #[.int .i64 a2_0, .int .i64 a2_1] 48 (0, 0))) := ⟨h2_⟩
   have n3_ : Aside0 (w13.heap[gb215]? = some (.cells #[.int .i64 0, .slice none 0 0] 25 (0, 0))) := ⟨h3_⟩
   have n4_ : Aside0 (w.heap.size ≤ gb215) := ⟨h4_⟩
   have n5_ : Aside0 (w.heap.size ≤ gb215) := ⟨h5_⟩
   have n6_ : Aside0 (gb210 ≠ gb215) := ⟨h6_⟩
   have n7_ : Aside0 (gb215 ≠ gb210) := ⟨h7_⟩
   have n8_ : Aside0 (gb211 ≠ gb215) := ⟨h8_⟩
   have n9_ : Aside0 (gb215 ≠ gb211) := ⟨h9_⟩
   have n10_ : Aside0 (Below w.heap.size w w13) := ⟨h10_⟩
   clear BK210
   clear BK211
   clear HB
   clear h0_ h1_ h2_ h3_ h4_ h5_ h6_ h7_ h8_ h9_ h10_
   have HO214 := n0_
   have BK210 := n1_
   have BK211 := n2_
   have BK215 := n3_
   have GW215 := n4_
   have GE215 := n5_
   have NB210_215 := n6_
   have NB215_210 := n7_
   have NB211_215 := n8_
   have NB215_211 := n9_
   have HB := n10_
   clear n0_ n1_ n2_ n3_ n4_ n5_ n6_ n7_ n8_ n9_ n10_
   have hHeld : w13.cell? ⟨gb210, 0, none⟩ = some (.int .i64 a0_0) ∧ w13.cell? ⟨gb210, 1, none⟩ = some (.slice A0_1 l0_1.length c0_1) := hS_
   obtain ⟨Ao14, co14, eo14⟩ := Kd.R_slice HO214.out
   (first | subst eo14 | (injection eo14 with f1_ f2_ f3_; have f4_ := f1_.symm; have f5_ := f3_.symm; clear f1_ f2_ f3_; subst f4_; subst f5_))
   refine norm_ (a' := ?_) ?_ ?_
   rotate_left
   ·simp only [putAll, Act.put, zB, zC, zD]
    rfl
   refine one_ (i := 7) (N := none) #[true, true, true, true, true, true, true, true] rfl rfl (one_of HT_.out (by kernel_rfl)) (by decide) (fun K hK => ?_)
   have hs15 : w13.cell? ⟨gb215, 0, none⟩ = some (.int .i64 0) := (blk_cell BK215.out 0).trans rfl
   have hfs15 := blk_frozen BK215.out 0
   have hns15_0 := NB210_215.out
   have hns15_1 := NB211_215.out
   have hms15_0 := NB215_210.out
   have hms15_1 := NB215_211.out
   have hs16 : w13.cell? ⟨gb215, 1, none⟩ = some (.slice none 0 0) := (blk_cell BK215.out 1).trans rfl
   have hfs16 := blk_frozen BK215.out 1
   have hns16_0 := NB210_215.out
   have hns16_1 := NB211_215.out
   have hms16_0 := NB215_210.out
   have hms16_1 := NB215_211.out
   refine skip_ (w1 := ?_) (by rfl) rfl ?_ ?_
   rotate_left
   ·go_simp
    rfl
   refine hK.out _ _ ⟨((cell_far (p := ⟨gb215, _, none⟩) NB210_215.out _).trans (((cell_far (p := ⟨gb215, _, none⟩) NB210_215.out _).trans (hHeld.1)))), ((cell_far (p := ⟨gb215, _, none⟩) NB210_215.out _).trans (((cell_far (p := ⟨gb215, _, none⟩) NB210_215.out _).trans (hHeld.2))))⟩ (fun hHeld => ?_)
   clear hK K
   refine done_ (done_of HT_.out (by kernel_rfl)) ?_
   have hnb17 := NB215_210.out
   have hnc17 := NB210_215.out
   have hnb18 := NB215_211.out
   have hnc18 := NB211_215.out
   have hcz19_0 : w13.cell? ⟨gb215, 0, none⟩ = some (.int .i64 0) := (blk_cell BK215.out 0).trans rfl
   have hcz19_1 : w13.cell? ⟨gb215, 1, none⟩ = some (.slice none 0 0) := (blk_cell BK215.out 1).trans rfl
   have hfz19_0 := blk_frozen BK215.out 0
   have hfz19_1 := blk_frozen BK215.out 1
   have hnb20 := NB211_210.out
   have hnc20 := NB210_211.out
   have hcz21_0 : w13.cell? ⟨gb211, 0, none⟩ = some (.int .i64 a2_0) := (blk_cell BK211.out 0).trans rfl
   have hcz21_1 : w13.cell? ⟨gb211, 1, none⟩ = some (.int .i64 a2_1) := (blk_cell BK211.out 1).trans rfl
   have hfz21_0 := blk_frozen BK211.out 0
   have hfz21_1 := blk_frozen BK211.out 1
   try go_wp2_with (first | ((with_reducible refine gate_dst (N := 26) rfl ?_); refine Kd.R_lit k35 _ 35 ?hg (N := 26) ?hd (xs := ([(⟨1, a1, 0, a2_0⟩ : S35), (⟨2, a1, 0, a2_1⟩ : S35)] : List (S35))) (inner := [.int .i64 1, .int .i64 a1, .int .i64 0, .int .i64 a2_0, .int .i64 2, .int .i64 a1, .int .i64 0, .int .i64 a2_1]) (ok := fun _ => True) (okp := fun _ => True) ?hr ?hp (fun _ hk => hk) trivial (Below.refl _ _) (Nat.le_refl _) (by simp) ?_; (case hd => rfl); (case hg => rfl); (case hr => first | (go_simp; done) | (go_simp; rfl)); (case hp => exact (Reps.c4 (show Kd.M k35 _ _ _ (⟨1, a1, 0, a2_0⟩ : S35) [.int .i64 1, .int .i64 a1, .int .i64 0, .int .i64 a2_0] from (k35_mkM _ _ _ (⟨1, a1, 0, a2_0⟩ : S35) )) (Reps.c4 (show Kd.M k35 _ _ _ (⟨2, a1, 0, a2_1⟩ : S35) [.int .i64 2, .int .i64 a1, .int .i64 0, .int .i64 a2_1] from (k35_mkM _ _ _ (⟨2, a1, 0, a2_1⟩ : S35) )) (Reps.none _ _)))); intro v217 w22 ho23 hb hg_ hnew_; clear hg_ hnew_; (first | rw [← Ny216.out] at ho23 | (simp only [Int.reduceToNat] at ho23; rw [← Ny216.out] at ho23)); have n0_ := zA (Kd.R_elder' (by (with_reducible repeat (first | apply zF | apply zE | apply zG)); exact (Kd.R_mono (Kd.R_far (p := ⟨gb215, 1, none⟩) (Kd.R_far (p := ⟨gb215, 0, none⟩) (Kd.R_types HO214.out BK215.out (by decide)) (fun _ hk => hk.2) (.int .i64 a0_0)) (fun _ hk => hk.2) (.slice Ao14 y212.length co14)) (fun _ h_ => h_.1))) (Kd.R_base ho23) hb); have n1_ := zA (Kd.R_lower (Kd.R_new' ho23 (Kd.R_lt (by (with_reducible repeat (first | apply zF | apply zE | apply zG)); exact (Kd.R_mono (Kd.R_far (p := ⟨gb215, 1, none⟩) (Kd.R_far (p := ⟨gb215, 0, none⟩) (Kd.R_types HO214.out BK215.out (by decide)) (fun _ hk => hk.2) (.int .i64 a0_0)) (fun _ hk => hk.2) (.slice Ao14 y212.length co14)) (fun _ h_ => h_.1))))) (zT (bB_ HB))); have n2_ := zA (zU (g := gb210) (o := .cells #[.int .i64 a0_0, .slice A0_1 l0_1.length c0_1] 25 (0, 0)) (bD_ BK210) hb); have n3_ := zA (zU (g := gb211) (o := .cells #[.int .i64 a2_0, .int .i64 a2_1] 48 (0, 0)) (bD_ BK211) hb); have n4_ := zA (zU (g := gb215) (o := .cells #[.int .i64 a0_0, .slice Ao14 y212.length co14] 25 (0, 0)) (by (with_reducible repeat (first | refine zM ?_ _ | refine zN ?_ | refine zO ?_ _)); refine blk_put (cs := #[.int .i64 a0_0, .slice none 0 0]) ?_ 1 _ rfl; (with_reducible repeat (first | refine zM ?_ _ | refine zN ?_ | refine zO ?_ _)); refine blk_put (cs := #[.int .i64 0, .slice none 0 0]) ?_ 0 _ rfl; (with_reducible repeat (first | refine zM ?_ _ | refine zN ?_ | refine zO ?_ _)); exact BK215.out) hb); have n5_ := zA (below_step (bB_ HB) hb); clear HO214; clear BK210; clear BK211; clear BK215; clear HB; have HO214 := n0_; have HO218 := n1_; have BK210 := n2_; have BK211 := n3_; have BK215 := n4_; have HB := n5_; clear n0_ n1_ n2_ n3_ n4_ n5_; clear hb ho23; obtain ⟨Ao25, co25, eo25⟩ := Kd.R_slice HO218.out; subst eo25) | ((with_reducible refine gate_builtin (b := .append) (xs := #[.tmp 17, .tmp 26]) rfl ?_); at_builtin; refine Kd.R_append_rows k35 (w0 := w) w.heap.size rfl (.tmp 17) (.tmp 26) 23 35 (.agg #[(.int .i64 0), (.int .i64 0), (.int .i64 0), (.int .i64 0)]) 32 rfl Try.underlying23 info35 rfl (by decide) (by omega) (.slice Ao14 y212.length co14) y212 y216 _ _ _ (fun k_ => some k_ ≠ (.slice Ao25 y216.length co25 : Value).ownBlock) (fun _ => False) rfl rfl ?aO ?aR (fun _ _ h => h) (fun _ h => h.elim) ?aF ?aB ?aS ?aL ?_; (case aR => repeat (first | exact (zK HO218.out).2.2 | (with_reducible refine zI ?_ _) | (with_reducible refine zH ?_ _) | (with_reducible refine zJ ?_))); (case aB => exact (bB_ HB)); (case aF => exact (fun k_ hk => Kd.fresh' (Kd.R_lt (bC_ HO218)) k_ hk)); (case aO => exact (by (with_reducible repeat (first | apply zF | apply zE | apply zG)); exact Kd.R_mono HO214.out (fun _ hk => hk.2))); (case aS => exact (zT (bB_ HB))); (case aL => have := LMc5.out; omega); intro v220 w24 ho hb hg hat; rw [← Ny219.out] at ho; have n0_ := zA (blk_grown (g := gb210) (o := .cells #[.int .i64 a0_0, .slice A0_1 l0_1.length c0_1] 25 (0, 0)) (bA_ BK210) hg (Kd.R_ne HO214.out BK210.out (by decide))); have n1_ := zA (blk_grown (g := gb211) (o := .cells #[.int .i64 a2_0, .int .i64 a2_1] 48 (0, 0)) (bA_ BK211) hg (Kd.R_ne HO214.out BK211.out (by decide))); have n2_ := zA (blk_grown (g := gb215) (o := .cells #[.int .i64 a0_0, .slice Ao14 y212.length co14] 25 (0, 0)) (bA_ BK215) hg (Kd.R_ne HO214.out BK215.out (by decide))); have n3_ := zA (Kd.R_after (ok := (fun _ => True)) (bC_ HO218) hg hat); have n4_ := zA (hb); have n5_ := zA (ho); clear BK210; clear BK211; clear BK215; clear HO218; clear HB; clear HO214; have BK210 := n0_; have BK211 := n1_; have BK215 := n2_; have HO218 := n3_; have HB := n4_; have HO221 := n5_; clear n0_ n1_ n2_ n3_ n4_ n5_; clear ho hb hg hat; obtain ⟨Ao26, co26, eo26⟩ := Kd.R_slice HO221.out; subst eo26; have hcz27_0 : w24.cell? ⟨gb215, 0, none⟩ = some (.int .i64 a0_0) := (blk_cell BK215.out 0).trans rfl; have hcz27_1 : w24.cell? ⟨gb215, 1, none⟩ = some (.slice Ao14 y212.length co14) := (blk_cell BK215.out 1).trans rfl; have hfz27_0 := blk_frozen BK215.out 0; have hfz27_1 := blk_frozen BK215.out 1) | ((with_reducible refine gate_callee (f := 9) rfl ?_); refine goesL_ (some 30) rfl rfl Try.func9 (by kernel_rfl) rfl #[.agg #[.int .i64 a0_0, .slice Ao26 y219.length co26]] rfl (by (try simp only [List.map_toArray, List.map_cons, List.map_nil]); first | done | rfl | (simp only [List.length_drop, List.length_take]; rfl)) ?_; (with_reducible refine (impl_SketchSolve.calls k a0_0 _ _ y219 t222 t225 t226 _ ?side1 ?side2 A6.out).mono ?_); (case side1 => refine (zK (e := 35) (base := w.heap.size) (ok := fun k_ => some k_ ≠ (.slice Ao25 y216.length co25 : Value).ownBlock) (n := y219.length) (c := co26) ?_).2.2; exact (by (with_reducible repeat (first | apply zF | apply zE | apply zG)); exact (Kd.R_mono (Kd.R_far (p := ⟨gb215, 1, none⟩) (Kd.R_types HO221.out BK215.out (by decide)) (fun _ hk => hk.2) (.slice Ao26 y219.length co26)) (fun _ h_ => h_.1)))); (case side2 => exact (zK HO221.out).2.1); rintro e w28 ⟨v223, v227, rfl, ho0, ho1, hb⟩; refine ⟨_, rfl, ?_⟩; have n0_ := zA (zL (by (with_reducible repeat (first | apply zF | apply zE | apply zG)); exact (Kd.R_mono (Kd.R_far (p := ⟨gb215, 1, none⟩) (Kd.R_types HO218.out BK215.out (by decide)) (fun _ hk => hk.2) (.slice Ao26 y219.length co26)) (fun _ h_ => h_.1))) hb); have n1_ := zA (zL (by (with_reducible repeat (first | apply zF | apply zE | apply zG)); exact (Kd.R_mono (Kd.R_far (p := ⟨gb215, 1, none⟩) (Kd.R_types HO221.out BK215.out (by decide)) (fun _ hk => hk.2) (.slice Ao26 y219.length co26)) (fun _ h_ => h_.1))) hb); have n2_ := zA (Kd.R_lower (Kd.R_newB ho0 (g := gb211) (o := .cells #[.int .i64 a2_0, .int .i64 a2_1] 48 (0, 0)) (bD_ BK211)) (zT (bB_ HB))); have n3_ := zA (Kd.R_lower ho1 (zT (bB_ HB))); have n4_ := zA (zU (g := gb210) (o := .cells #[.int .i64 a0_0, .slice A0_1 l0_1.length c0_1] 25 (0, 0)) (bD_ BK210) hb); have n5_ := zA (zU (g := gb211) (o := .cells #[.int .i64 a2_0, .int .i64 a2_1] 48 (0, 0)) (bD_ BK211) hb); have n6_ := zA (zU (g := gb215) (o := .cells #[.int .i64 a0_0, .slice Ao26 y219.length co26] 25 (0, 0)) (by (with_reducible repeat (first | refine zM ?_ _ | refine zN ?_ | refine zO ?_ _)); refine blk_put (cs := #[.int .i64 a0_0, .slice Ao14 y212.length co14]) ?_ 1 _ rfl; (with_reducible repeat (first | refine zM ?_ _ | refine zN ?_ | refine zO ?_ _)); exact BK215.out) hb); have n7_ := zA (below_step (bB_ HB) hb); clear HO218; clear HO221; clear BK210; clear BK211; clear BK215; clear HB; have HO218 := n0_; have HO221 := n1_; have HO224 := n2_; have HO228 := n3_; have BK210 := n4_; have BK211 := n5_; have BK215 := n6_; have HB := n7_; clear n0_ n1_ n2_ n3_ n4_ n5_ n6_ n7_; (try clear hb); (try clear hb2); (try clear hk); (try clear hi); (try clear ho0); (try clear ho1)))
   go_ret3
   exact ⟨_, _, by first | rfl | (simp [errW_none, errW_some] <;> rfl) | (simp [*, errW_none, errW_some] <;> rfl), by (with_reducible repeat (first | apply zF | apply zE | apply zG)); exact Kd.R_mono HO224.out (fun _ hk => trivial), bC_ HO228, bB_ HB⟩
  ·rw [if_neg c5] at H
   exact absurd H (by simp)
 ·rw [if_neg c4] at H
  exact absurd H (by simp)

def spec_l04Wants.f (a0 : Int) : Option (Bool × Bool) := some (decide (a0 ≥ 3), decide (a0 ≤ 6))
set_option maxHeartbeats 8000000 in
set_option maxRecDepth 100000 in
theorem spec_l04Wants.calls (a0 : Int) (r1 : Bool) (r2 : Bool) (w : World) (h : spec_l04Wants.f a0 = some (r1, r2)) :
  Calls Try.prog 40 #[.int .i64 a0] w fun e w' => e = .returned (.tuple #[.bool r1, .bool r2]) ∧ Drawn0 w w' := by
 have H : (some (decide (a0 ≥ 3), decide (a0 ≤ 6))) = some (r1, r2) := h
 clear h
 simp only [Option.some.injEq, Prod.mk.injEq] at H
 obtain ⟨rfl, rfl⟩ := H
 go_enter Try.func40, Try.ntmps40
 go_wp2
 go_ret2
 exact ⟨by first | rfl | (simp; done) | (simp [*]; done), by repeat (first | exact Drawn0.refl _ | apply Drawn0.step)⟩

end Go.Proofs.Ytnbkdfnlggmopaa.PFnExactSketchMove
