/- Written for this claim by a program of this session: the functions that the law reaches, each with its contract. -/
import Derived.Test.YtlmlhkmkabklmaaPFnExactSpectrumx0
import Derived.Test.YtlmlhkmkabklmaaPFnExactSpectrumx1
namespace Go.Proofs.Ytlmlhkmkabklmaa.PFnExactSpectrum
open Go.RowKit Go.Proofs.YtlmlhkmkabklmaaW.PrintWords Go.Proofs.YtlmlhkmkabklmaaW.PrintLast Go.Proofs.YtlmlhkmkabklmaaW.PrintMore
attribute [local go_sem] fEq_w fNe_w fLt_w fLe_w fGt_w fGe_w fOf_w fInt_w fConv_w fNeg_w fStore_w i64_w max2_int min2_int max_two min_two max_three min_three max_four min_four   -- for this text's walks alone
set_option linter.unusedVariables false
set_option linter.unusedSimpArgs false

theorem arr_add (g n : Nat) : (⟨g, 0, none⟩ : Addr).add n = ⟨g, n, none⟩ := by
  unfold Addr.add
  split
  · rename_i h; rw [h]
  · simp
theorem Kd.R_arr {α : Type} (d : Kd α) {W : World} {base g e : Nat} {xs : List α} {inner : Array Value} (h : W.heap[g]? = some (.cells inner e (0, 0))) (hb : base ≤ g) (hm : xs.length ≤ 9223372036854775807) (hrep : Reps (d.M W base (fun k => True ∧ some k ≠ some g)) d.sz xs inner.toList) :
    d.R e W base (fun _ => True) (.slice (some ⟨g, 0, none⟩) xs.length xs.length) xs :=
  ⟨fun _ _ => trivial, inner.toList, ⟨hrep.1, .inr ⟨g, xs.length, inner, rfl, hb, h, Nat.le_refl _, by simpa [maxLen] using hm, by simpa using hrep.1, List.take_of_length_le (by rw [hrep.1]; exact Nat.le_refl _)⟩⟩, hrep⟩
/-! ### impl_Spectrum: function 18 -/
mutual
def impl_Spectrum.l0 : Nat → List Nat → List Nat → Int → Int → Option ((List (S40)) × Int)
  | 0, _, _, _, _ => none
  | k + 1, x0, x19, x20, x21 => if x21 < x20 then (if 0 ≤ x21 then (if x21 < (x19.length : Int) then ((impl_within1.f (rdOf (0 : Nat) x19 x21) 13920209183539462144 4696837146684686336).bind fun t114 => (if t114 = true then (impl_Spectrum.l0 k x0 x19 x20 (wrap64 (x21 + 1))) else (some (([] : List (S40)), 1)))) else (none)) else (none)) else (if 8 ≤ 17592186044416 then ((some (List.replicate 8 z40 : List (S40))).bind fun y118 => (impl_Spectrum.l1 k x0 (([(⟨4607182418800017408, 0⟩ : S40), (⟨4604544271217802189, 13827916308072577997⟩ : S40), (⟨0, 13830554455654793216⟩ : S40), (⟨13827916308072577997, 13827916308072577997⟩ : S40), (⟨13830554455654793216, 0⟩ : S40), (⟨13827916308072577997, 4604544271217802189⟩ : S40), (⟨0, 4607182418800017408⟩ : S40), (⟨4604544271217802189, 4604544271217802189⟩ : S40)] : List (S40))) y118 (y118.length : Int) 0)) else (none))
def impl_Spectrum.l1 : Nat → List Nat → List (S40) → List (S40) → Int → Int → Option ((List (S40)) × Int)
  | 0, _, _, _, _, _ => none
  | k + 1, x0, x6, x7, x40, x41 => if x41 < x40 then (impl_Spectrum.l2 k x0 x6 x7 x41 x40 x41 x0 (x0.length : Int) 0) else (some (x7, 0))
def impl_Spectrum.l2 : Nat → List Nat → List (S40) → List (S40) → Int → Int → Int → List Nat → Int → Int → Option ((List (S40)) × Int)
  | 0, _, _, _, _, _, _, _, _, _ => none
  | k + 1, x0, x6, x7, x8, x40, x41, x44, x45, x46 => if x46 < x45 then (if 0 ≤ x46 then (if x46 < (x44.length : Int) then (if 0 ≤ (Int.tmod (wrap64 (x46 * x8)) 8) then (if (Int.tmod (wrap64 (x46 * x8)) 8) < (x6.length : Int) then (if fOk .mul .f64 (rdOf (0 : Nat) x44 x46) ((rd_T40 x6 (Int.tmod (wrap64 (x46 * x8)) 8)).f0) = true then (if fOk .mul .f64 (rdOf (0 : Nat) x44 x46) ((rd_T40 x6 (Int.tmod (wrap64 (x46 * x8)) 8)).f1) = true then (if 0 ≤ x8 then (if x8 < (x7.length : Int) then ((impl_addTone.f ((rd_T40 x7 x8).f0) ((rd_T40 x7 x8).f1) (fOf .mul .f64 (rdOf (0 : Nat) x44 x46) ((rd_T40 x6 (Int.tmod (wrap64 (x46 * x8)) 8)).f0)) (fOf .mul .f64 (rdOf (0 : Nat) x44 x46) ((rd_T40 x6 (Int.tmod (wrap64 (x46 * x8)) 8)).f1))).bind fun bt126 => (impl_Spectrum.l2 k x0 x6 (x7.set (x8 : Int).toNat (⟨bt126.1, bt126.2⟩ : S40)) x8 x40 x41 x44 x45 (wrap64 (x46 + 1)))) else (none)) else (none)) else (none)) else (none)) else (none)) else (none)) else (none)) else (none)) else (impl_Spectrum.l1 k x0 x6 x7 x40 (wrap64 (x41 + 1)))
end
def impl_Spectrum.f (k : Nat) (l0 : List Nat) : Option ((List (S40)) × Int) := if (l0.length : Int) > 4096 then (some (([] : List (S40)), 2)) else (if (l0.length : Int) = 8 then (impl_Spectrum.l0 k l0 l0 (l0.length : Int) 0) else (some (([] : List (S40)), 1)))
theorem impl_Spectrum.mono_l : ∀ k, (∀ y0 y1 y2 y3, LeO (impl_Spectrum.l0 k y0 y1 y2 y3) (impl_Spectrum.l0 (k + 1) y0 y1 y2 y3)) ∧ (∀ y0 y1 y2 y3 y4, LeO (impl_Spectrum.l1 k y0 y1 y2 y3 y4) (impl_Spectrum.l1 (k + 1) y0 y1 y2 y3 y4)) ∧ (∀ y0 y1 y2 y3 y4 y5 y6 y7 y8, LeO (impl_Spectrum.l2 k y0 y1 y2 y3 y4 y5 y6 y7 y8) (impl_Spectrum.l2 (k + 1) y0 y1 y2 y3 y4 y5 y6 y7 y8))
  | 0 => ⟨fun _ _ _ _ r h => by simp [impl_Spectrum.l0] at h, fun _ _ _ _ _ r h => by simp [impl_Spectrum.l1] at h, fun _ _ _ _ _ _ _ _ _ r h => by simp [impl_Spectrum.l2] at h⟩
  | k + 1 => by
    obtain ⟨ih0, ih1, ih2⟩ := impl_Spectrum.mono_l k
    refine ⟨?_, ?_, ?_⟩
    · intro y0 y1 y2 y3
      unfold impl_Spectrum.l0
      repeat' first
      | (with_reducible exact ih0 _ _ _ _)
      | (with_reducible exact ih1 _ _ _ _ _)
      | (with_reducible exact ih2 _ _ _ _ _ _ _ _ _)
      | (with_reducible exact LeO.refl _)
      | (with_reducible exact LeO.none _)
      | (with_reducible refine LeO.ite ?_ ?_)
      | (with_reducible refine LeO.bind ?_ (fun _ => ?_))
      | exact ih0 _ _ _ _
      | exact ih1 _ _ _ _ _
      | exact ih2 _ _ _ _ _ _ _ _ _
      | exact LeO.none _
      | refine LeO.ite ?_ ?_
      | refine LeO.bind ?_ (fun _ => ?_)
    · intro y0 y1 y2 y3 y4
      unfold impl_Spectrum.l1
      repeat' first
      | (with_reducible exact ih0 _ _ _ _)
      | (with_reducible exact ih1 _ _ _ _ _)
      | (with_reducible exact ih2 _ _ _ _ _ _ _ _ _)
      | (with_reducible exact LeO.refl _)
      | (with_reducible exact LeO.none _)
      | (with_reducible refine LeO.ite ?_ ?_)
      | (with_reducible refine LeO.bind ?_ (fun _ => ?_))
      | exact ih0 _ _ _ _
      | exact ih1 _ _ _ _ _
      | exact ih2 _ _ _ _ _ _ _ _ _
      | exact LeO.none _
      | refine LeO.ite ?_ ?_
      | refine LeO.bind ?_ (fun _ => ?_)
    · intro y0 y1 y2 y3 y4 y5 y6 y7 y8
      unfold impl_Spectrum.l2
      repeat' first
      | (with_reducible exact ih0 _ _ _ _)
      | (with_reducible exact ih1 _ _ _ _ _)
      | (with_reducible exact ih2 _ _ _ _ _ _ _ _ _)
      | (with_reducible exact LeO.refl _)
      | (with_reducible exact LeO.none _)
      | (with_reducible refine LeO.ite ?_ ?_)
      | (with_reducible refine LeO.bind ?_ (fun _ => ?_))
      | exact ih0 _ _ _ _
      | exact ih1 _ _ _ _ _
      | exact ih2 _ _ _ _ _ _ _ _ _
      | exact LeO.none _
      | refine LeO.ite ?_ ?_
      | refine LeO.bind ?_ (fun _ => ?_)
theorem impl_Spectrum.mono : ∀ a0 k, LeO (impl_Spectrum.f k a0) (impl_Spectrum.f (k + 1) a0) := by
  intro a0 k
  obtain ⟨ih0, ih1, ih2⟩ := impl_Spectrum.mono_l k
  unfold impl_Spectrum.f
  repeat' first
      | (with_reducible exact ih0 _ _ _ _)
      | (with_reducible exact ih1 _ _ _ _ _)
      | (with_reducible exact ih2 _ _ _ _ _ _ _ _ _)
      | (with_reducible exact LeO.refl _)
      | (with_reducible exact LeO.none _)
      | (with_reducible refine LeO.ite ?_ ?_)
      | (with_reducible refine LeO.bind ?_ (fun _ => ?_))
      | exact ih0 _ _ _ _
      | exact ih1 _ _ _ _ _
      | exact ih2 _ _ _ _ _ _ _ _ _
      | exact LeO.none _
      | refine LeO.ite ?_ ?_
      | refine LeO.bind ?_ (fun _ => ?_)
def impl_Spectrum.T21 : Bool × List (List Nat × List Nat) := (true, [([], []), ([], []), ([], []), ([], []), ([2, 3], [2, 3]), ([4], [4]), ([], []), ([5, 6], [5, 6]), ([0, 1, 0, 1, 2, 3, 4, 5, 6, 7], [0, 1]), ([8, 7, 7, 0, 1, 2, 3, 4, 5, 6, 7], [7, 8])])
def impl_Spectrum.B21 : List Nat := [0, 0, 0, 0, 12, 28, 0, 124, 255, 511]
theorem impl_Spectrum.tab21 : rtab .any (opsOf Try.f18 21) = impl_Spectrum.T21 := by kernel_rfl
theorem impl_Spectrum.bits21 : waitsOk impl_Spectrum.T21.2 impl_Spectrum.B21 = true := by kernel_rfl
set_option maxHeartbeats 8000000 in
set_option maxRecDepth 100000 in
theorem impl_Spectrum.calls (k : Nat) (A0 : Option Addr) (c0 : Nat) (l0 : List Nat) (r1 : List (S40)) (r2 : Int) (w : World) (hr0 : Kd.C (Kd.flt .f64) w A0 l0.length l0) (hc0 : l0.length ≤ c0) (h : impl_Spectrum.f k l0 = some (r1, r2)) :
    Calls Try.prog 18 #[.slice A0 l0.length c0] w fun e w' => ∃ v0_ : Value, e = .returned (.tuple #[v0_, .int .i64 r2]) ∧ Kd.R k40 40 w' w.heap.size (fun _ => True) v0_ r1 ∧ Below w.heap.size w w' := by
  have hu40 := Try.underlying40
  have HR0 := Aside0.mk hr0
  have HC0 := Aside0.mk hc0
  clear hr0 hc0
  have HB := Aside0.mk (Below.refl w.heap.size w)
  have H : (if (l0.length : Int) > 4096 then (some (([] : List (S40)), 2)) else (if (l0.length : Int) = 8 then (impl_Spectrum.l0 k l0 l0 (l0.length : Int) 0) else (some (([] : List (S40)), 1)))) = some (r1, r2) := h
  clear h
  by_cases c2 : (l0.length : Int) > 4096
  · rw [if_pos c2] at H
    have c2b0 : decide (4096 < (l0.length : Int)) = true := decide_eq_true c2
    have c2b1 : decide (4096 < l0.length) = true := decide_eq_true (by omega)
    clear c2
    simp only [Option.some.injEq, Prod.mk.injEq] at H
    obtain ⟨rfl, rfl⟩ := H
    go_enter Try.func18, Try.ntmps18
    go_wp2
    go_ret2
    exact ⟨_, by first | rfl | (simp [errW_none, errW_some] <;> rfl) | (simp [*, errW_none, errW_some] <;> rfl), by first | exact Kd.R_nil _ _ _ _ _ | exact Kd.N_nil _ _ _ _ _ | exact Kd.V_nil _ _ _ _ _ | exact Kd.Q_nil _ _ _ _ _ | exact Kd.S_nil _ _ _ _ _, by repeat (first | (with_reducible first | exact HB.out | apply below_alloc | apply pw_below_drewN | apply below_drew1) | exact HB.out)⟩
  · rw [if_neg c2] at H
    have c2b0 : decide (4096 < (l0.length : Int)) = false := decide_eq_false c2
    have c2b1 : decide (4096 < l0.length) = false := decide_eq_false (by omega)
    clear c2
    by_cases c3 : (l0.length : Int) = 8
    · rw [if_pos c3] at H
      have c3b0 : ((l0.length : Int) == 8) = true := beq_iff_eq.mpr c3
      have c3b1 : ((l0.length : Int) != 8) = false := bne_eq_false_iff_eq.mpr c3
      clear c3
      have H' := Aside0.mk H
      clear H
      go_enter Try.func18, Try.ntmps18
      go_wp2
      go_loopg [21] k (fun kq v21 w' => ∃ (x21_1 : Int), v21 = .int .i64 x21_1 ∧ Aside0 (impl_Spectrum.l0 kq l0 l0 (l0.length : Int) x21_1 = some (r1, r2)) ∧ Aside0 (kq ≤ k) ∧ Aside0 (Below w.heap.size w w'))
      case atStart => exact ⟨(0), (by first | rfl | (simp; done) | (simp [*]; done)), H', ⟨Nat.le_refl _⟩, ⟨by repeat (first | (with_reducible first | exact HB.out | apply below_alloc | apply pw_below_drewN | apply below_drew1) | exact HB.out)⟩⟩
      case round =>
        clear H'
        try clear c1
        try clear c2
        try clear c2b0
        try clear c2b1
        try clear p2
        try clear c3
        try clear c3b0
        try clear c3b1
        obtain ⟨x21_1, rfl, HA, HK1, HB⟩ := hrel
        cases gk with
        | zero => exact absurd HA.out (by simp [impl_Spectrum.l0])
        | succ k1 =>
          have H := HA.out
          clear HA
          simp only [impl_Spectrum.l0] at H
          by_cases c4 : x21_1 < (l0.length : Int)
          · rw [if_pos c4] at H
            have c4b0 : decide (x21_1 < (l0.length : Int)) = true := decide_eq_true c4
            clear c4
            by_cases c5 : 0 ≤ x21_1
            · rw [if_pos c5] at H
              have c5b0 : decide (0 ≤ x21_1) = true := decide_eq_true c5
              clear c5
              by_cases c6 : x21_1 < (l0.length : Int)
              · rw [if_pos c6] at H
                have c6b0 : decide (x21_1 < (l0.length : Int)) = true := decide_eq_true c6
                clear c6
                replace H := Option.bind_eq_some_iff.mp H
                obtain ⟨t114, A70, H⟩ := H
                replace H : (if t114 = true then (impl_Spectrum.l0 k1 l0 l0 (l0.length : Int) (wrap64 (x21_1 + 1))) else (some (([] : List (S40)), 1))) = some (r1, r2) := H
                have A7 := Aside0.mk A70
                clear A70
                by_cases c8 : t114 = true
                · subst c8
                  have H1 : (impl_Spectrum.l0 k1 l0 l0 (l0.length : Int) (wrap64 (x21_1 + 1))) = some (r1, r2) := by rw [if_pos rfl] at H; exact H
                  clear H
                  have H := H1
                  clear H1
                  have H' := Aside0.mk H
                  clear H
                  have p113 : 0 ≤ (x21_1 : Int) := of_decide_eq_true (by first | (with_reducible assumption) | assumption)
                  have q113 : x21_1 < (l0.length : Int) := of_decide_eq_true (by first | (with_reducible assumption) | assumption)
                  obtain ⟨ad113, e113, hx113_0⟩ := Kd.at_flt HR0.out x21_1 p113 q113
                  cases e113
                  replace hx113_0 := (HB.out.cell (World.block_lt_of_cell? w _ hx113_0)).trans hx113_0
                  replace p113 := eq_true p113
                  replace q113 := eq_true q113
                  go_wp2_with (first | ((with_reducible refine gate_callee (f := 37) rfl ?_); refine goesL_ (some 26) rfl rfl Try.func37 (by kernel_rfl) rfl #[.float .f64 (rdOf (0 : Nat) l0 x21_1), .float .f64 13920209183539462144, .float .f64 4696837146684686336] rfl (by (try simp only [List.map_toArray, List.map_cons, List.map_nil]); first | done | rfl | (simp only [List.length_drop, List.length_take]; rfl)) ?_; (with_reducible refine (impl_within1.calls (rdOf (0 : Nat) l0 x21_1) 13920209183539462144 4696837146684686336 true _ A7.out).mono ?_); rintro e w' ⟨rfl, ⟨nd, rfl⟩⟩; refine ⟨_, rfl, ?_⟩))
                  go_roundg k1
                  case measure => have := HK1.out; omega
                  case rel => exact ⟨(wrap64 (x21_1 + 1)), (by first | rfl | (simp; done) | (simp [*]; done)), H', ⟨by have := HK1.out; omega⟩, ⟨by repeat (first | (with_reducible first | exact HB.out | apply below_alloc | apply pw_below_drewN | apply below_drew1) | exact HB.out)⟩⟩
                · replace c8 := Bool.eq_false_iff.mpr c8
                  subst c8
                  have H1 : (some (([] : List (S40)), 1)) = some (r1, r2) := by rw [if_neg (show ¬ (false = true) by decide)] at H; exact H
                  clear H
                  have H := H1
                  clear H1
                  simp only [Option.some.injEq, Prod.mk.injEq] at H
                  obtain ⟨rfl, rfl⟩ := H
                  have p113 : 0 ≤ (x21_1 : Int) := of_decide_eq_true (by first | (with_reducible assumption) | assumption)
                  have q113 : x21_1 < (l0.length : Int) := of_decide_eq_true (by first | (with_reducible assumption) | assumption)
                  obtain ⟨ad113, e113, hx113_0⟩ := Kd.at_flt HR0.out x21_1 p113 q113
                  cases e113
                  replace hx113_0 := (HB.out.cell (World.block_lt_of_cell? w _ hx113_0)).trans hx113_0
                  replace p113 := eq_true p113
                  replace q113 := eq_true q113
                  go_wp2_with (first | ((with_reducible refine gate_callee (f := 37) rfl ?_); refine goesL_ (some 26) rfl rfl Try.func37 (by kernel_rfl) rfl #[.float .f64 (rdOf (0 : Nat) l0 x21_1), .float .f64 13920209183539462144, .float .f64 4696837146684686336] rfl (by (try simp only [List.map_toArray, List.map_cons, List.map_nil]); first | done | rfl | (simp only [List.length_drop, List.length_take]; rfl)) ?_; (with_reducible refine (impl_within1.calls (rdOf (0 : Nat) l0 x21_1) 13920209183539462144 4696837146684686336 false _ A7.out).mono ?_); rintro e w' ⟨rfl, ⟨nd, rfl⟩⟩; refine ⟨_, rfl, ?_⟩))
                  go_ret2
                  exact ⟨_, by first | rfl | (simp [errW_none, errW_some] <;> rfl) | (simp [*, errW_none, errW_some] <;> rfl), by first | exact Kd.R_nil _ _ _ _ _ | exact Kd.N_nil _ _ _ _ _ | exact Kd.V_nil _ _ _ _ _ | exact Kd.Q_nil _ _ _ _ _ | exact Kd.S_nil _ _ _ _ _, by repeat (first | (with_reducible first | exact HB.out | apply below_alloc | apply pw_below_drewN | apply below_drew1) | exact HB.out)⟩
              · rw [if_neg c6] at H
                exact absurd H (by simp)
            · rw [if_neg c5] at H
              exact absurd H (by simp)
          · rw [if_neg c4] at H
            have c4b0 : decide (x21_1 < (l0.length : Int)) = false := decide_eq_false c4
            clear c4
            obtain ⟨y115, hy115⟩ : ∃ y_ : List (S40), y_ = (([(⟨4607182418800017408, 0⟩ : S40), (⟨4604544271217802189, 13827916308072577997⟩ : S40), (⟨0, 13830554455654793216⟩ : S40), (⟨13827916308072577997, 13827916308072577997⟩ : S40), (⟨13830554455654793216, 0⟩ : S40), (⟨13827916308072577997, 4604544271217802189⟩ : S40), (⟨0, 4607182418800017408⟩ : S40), (⟨4604544271217802189, 4604544271217802189⟩ : S40)] : List (S40))) := ⟨_, rfl⟩
            replace H : (if 8 ≤ 17592186044416 then ((some (List.replicate 8 z40 : List (S40))).bind fun y118 => (impl_Spectrum.l1 k1 l0 y115 y118 (y118.length : Int) 0)) else (none)) = some (r1, r2) := by first | (rw [hy115]; with_reducible exact H) | (have H2_ := (Option.bind_some _ _).symm.trans H; rw [hy115]; with_reducible exact H2_) | (have H2_ := (Option.bind_some _ _).symm.trans H; with_reducible exact H2_) | with_reducible exact H | (rw [hy115]; exact H) | exact H
            have Ny115 := Aside0.mk hy115
            clear hy115
            by_cases c9 : 8 ≤ 17592186044416
            · rw [if_pos c9] at H
              have c9b0 := eq_true c9
              have c9b1 : decide (8 ≤ 17592186044416) = true := decide_eq_true c9
              clear c9
              obtain ⟨y118, hy118⟩ : ∃ y_ : List (S40), y_ = (List.replicate 8 z40) := ⟨_, rfl⟩
              replace H : (impl_Spectrum.l1 k1 l0 y115 y118 (y118.length : Int) 0) = some (r1, r2) := by first | (rw [hy118]; with_reducible exact H) | (have H2_ := (Option.bind_some _ _).symm.trans H; rw [hy118]; with_reducible exact H2_) | (have H2_ := (Option.bind_some _ _).symm.trans H; with_reducible exact H2_) | with_reducible exact H | (rw [hy118]; exact H) | exact H
              have Ny118 := Aside0.mk hy118
              clear hy118
              have H' := Aside0.mk H
              clear H
              go_wp2_with (first | ((with_reducible refine gate_dst (N := 6) rfl ?_); refine box_event ?hg (N := 6) ?hd (cs := #[.float .f64 0, .float .f64 0, .float .f64 0, .float .f64 0, .float .f64 0, .float .f64 0, .float .f64 0, .float .f64 0, .float .f64 0, .float .f64 0, .float .f64 0, .float .f64 0, .float .f64 0, .float .f64 0, .float .f64 0, .float .f64 0]) (t := 65) ?hr ?_; (case hd => rfl); (case hg => rfl); (case hr => first | (go_simp; done) | (go_simp; rfl)); intro gA hg w10 hbox hb; have n1_ := Aside0.mk (below_step (by repeat (first | (with_reducible first | exact HB.out | apply below_alloc | apply pw_below_drewN | apply below_drew1) | exact HB.out)) hb); have n2_ := Aside0.mk ((by rw [hg]; exact (below_size (by repeat (first | (with_reducible first | exact HB.out | apply below_alloc | apply pw_below_drewN | apply below_drew1) | exact HB.out)))) : w.heap.size ≤ gA); clear HB; have HB := n1_; have GEA := n2_; have BKA := Aside0.mk hbox; clear n1_ n2_; clear hb hbox hg; have hcA_0 : w10.cell? ⟨gA, 0, none⟩ = some (.float .f64 0) := (blk_cell BKA.out 0).trans rfl; have hcA_1 : w10.cell? ⟨gA, 1, none⟩ = some (.float .f64 0) := (blk_cell BKA.out 1).trans rfl; have hcA_2 : w10.cell? ⟨gA, 2, none⟩ = some (.float .f64 0) := (blk_cell BKA.out 2).trans rfl; have hcA_3 : w10.cell? ⟨gA, 3, none⟩ = some (.float .f64 0) := (blk_cell BKA.out 3).trans rfl; have hcA_4 : w10.cell? ⟨gA, 4, none⟩ = some (.float .f64 0) := (blk_cell BKA.out 4).trans rfl; have hcA_5 : w10.cell? ⟨gA, 5, none⟩ = some (.float .f64 0) := (blk_cell BKA.out 5).trans rfl; have hcA_6 : w10.cell? ⟨gA, 6, none⟩ = some (.float .f64 0) := (blk_cell BKA.out 6).trans rfl; have hcA_7 : w10.cell? ⟨gA, 7, none⟩ = some (.float .f64 0) := (blk_cell BKA.out 7).trans rfl; have hcA_8 : w10.cell? ⟨gA, 8, none⟩ = some (.float .f64 0) := (blk_cell BKA.out 8).trans rfl; have hcA_9 : w10.cell? ⟨gA, 9, none⟩ = some (.float .f64 0) := (blk_cell BKA.out 9).trans rfl; have hcA_10 : w10.cell? ⟨gA, 10, none⟩ = some (.float .f64 0) := (blk_cell BKA.out 10).trans rfl; have hcA_11 : w10.cell? ⟨gA, 11, none⟩ = some (.float .f64 0) := (blk_cell BKA.out 11).trans rfl; have hcA_12 : w10.cell? ⟨gA, 12, none⟩ = some (.float .f64 0) := (blk_cell BKA.out 12).trans rfl; have hcA_13 : w10.cell? ⟨gA, 13, none⟩ = some (.float .f64 0) := (blk_cell BKA.out 13).trans rfl; have hcA_14 : w10.cell? ⟨gA, 14, none⟩ = some (.float .f64 0) := (blk_cell BKA.out 14).trans rfl; have hcA_15 : w10.cell? ⟨gA, 15, none⟩ = some (.float .f64 0) := (blk_cell BKA.out 15).trans rfl; have hfA_0 := blk_frozen BKA.out 0; have hfA_1 := blk_frozen BKA.out 1; have hfA_2 := blk_frozen BKA.out 2; have hfA_3 := blk_frozen BKA.out 3; have hfA_4 := blk_frozen BKA.out 4; have hfA_5 := blk_frozen BKA.out 5; have hfA_6 := blk_frozen BKA.out 6; have hfA_7 := blk_frozen BKA.out 7; have hfA_8 := blk_frozen BKA.out 8; have hfA_9 := blk_frozen BKA.out 9; have hfA_10 := blk_frozen BKA.out 10; have hfA_11 := blk_frozen BKA.out 11; have hfA_12 := blk_frozen BKA.out 12; have hfA_13 := blk_frozen BKA.out 13; have hfA_14 := blk_frozen BKA.out 14; have hfA_15 := blk_frozen BKA.out 15) | ((with_reducible refine gate_dst (N := 38) rfl ?_); obtain ⟨v116, HV_, HO117⟩ : ∃ v_ : Value, Aside0 (v_ = .slice (some ⟨gA, 0, none⟩) 8 8) ∧ Aside0 (Kd.R k40 65 ((((((((((((((((w10.setCell ⟨gA, 0, none⟩ (.float .f64 4607182418800017408)).setCell ⟨gA, 1, none⟩ (.float .f64 0)).setCell ⟨gA, 2, none⟩ (.float .f64 4604544271217802189)).setCell ⟨gA, 3, none⟩ (.float .f64 13827916308072577997)).setCell ⟨gA, 4, none⟩ (.float .f64 0)).setCell ⟨gA, 5, none⟩ (.float .f64 13830554455654793216)).setCell ⟨gA, 6, none⟩ (.float .f64 13827916308072577997)).setCell ⟨gA, 7, none⟩ (.float .f64 13827916308072577997)).setCell ⟨gA, 8, none⟩ (.float .f64 13830554455654793216)).setCell ⟨gA, 9, none⟩ (.float .f64 0)).setCell ⟨gA, 10, none⟩ (.float .f64 13827916308072577997)).setCell ⟨gA, 11, none⟩ (.float .f64 4604544271217802189)).setCell ⟨gA, 12, none⟩ (.float .f64 0)).setCell ⟨gA, 13, none⟩ (.float .f64 4607182418800017408)).setCell ⟨gA, 14, none⟩ (.float .f64 4604544271217802189)).setCell ⟨gA, 15, none⟩ (.float .f64 4604544271217802189)) w.heap.size (fun _ => True) v_ y115) := ⟨_, ⟨rfl⟩, ⟨by rw [Ny115.out]; exact Kd.R_arr k40 (xs := ([(⟨4607182418800017408, 0⟩ : S40), (⟨4604544271217802189, 13827916308072577997⟩ : S40), (⟨0, 13830554455654793216⟩ : S40), (⟨13827916308072577997, 13827916308072577997⟩ : S40), (⟨13830554455654793216, 0⟩ : S40), (⟨13827916308072577997, 4604544271217802189⟩ : S40), (⟨0, 4607182418800017408⟩ : S40), (⟨4604544271217802189, 4604544271217802189⟩ : S40)] : List (S40))) (blk_put (cs := #[.float .f64 4607182418800017408, .float .f64 0, .float .f64 4604544271217802189, .float .f64 13827916308072577997, .float .f64 0, .float .f64 13830554455654793216, .float .f64 13827916308072577997, .float .f64 13827916308072577997, .float .f64 13830554455654793216, .float .f64 0, .float .f64 13827916308072577997, .float .f64 4604544271217802189, .float .f64 0, .float .f64 4607182418800017408, .float .f64 4604544271217802189, .float .f64 0]) (blk_put (cs := #[.float .f64 4607182418800017408, .float .f64 0, .float .f64 4604544271217802189, .float .f64 13827916308072577997, .float .f64 0, .float .f64 13830554455654793216, .float .f64 13827916308072577997, .float .f64 13827916308072577997, .float .f64 13830554455654793216, .float .f64 0, .float .f64 13827916308072577997, .float .f64 4604544271217802189, .float .f64 0, .float .f64 4607182418800017408, .float .f64 0, .float .f64 0]) (blk_put (cs := #[.float .f64 4607182418800017408, .float .f64 0, .float .f64 4604544271217802189, .float .f64 13827916308072577997, .float .f64 0, .float .f64 13830554455654793216, .float .f64 13827916308072577997, .float .f64 13827916308072577997, .float .f64 13830554455654793216, .float .f64 0, .float .f64 13827916308072577997, .float .f64 4604544271217802189, .float .f64 0, .float .f64 0, .float .f64 0, .float .f64 0]) (blk_put (cs := #[.float .f64 4607182418800017408, .float .f64 0, .float .f64 4604544271217802189, .float .f64 13827916308072577997, .float .f64 0, .float .f64 13830554455654793216, .float .f64 13827916308072577997, .float .f64 13827916308072577997, .float .f64 13830554455654793216, .float .f64 0, .float .f64 13827916308072577997, .float .f64 4604544271217802189, .float .f64 0, .float .f64 0, .float .f64 0, .float .f64 0]) (blk_put (cs := #[.float .f64 4607182418800017408, .float .f64 0, .float .f64 4604544271217802189, .float .f64 13827916308072577997, .float .f64 0, .float .f64 13830554455654793216, .float .f64 13827916308072577997, .float .f64 13827916308072577997, .float .f64 13830554455654793216, .float .f64 0, .float .f64 13827916308072577997, .float .f64 0, .float .f64 0, .float .f64 0, .float .f64 0, .float .f64 0]) (blk_put (cs := #[.float .f64 4607182418800017408, .float .f64 0, .float .f64 4604544271217802189, .float .f64 13827916308072577997, .float .f64 0, .float .f64 13830554455654793216, .float .f64 13827916308072577997, .float .f64 13827916308072577997, .float .f64 13830554455654793216, .float .f64 0, .float .f64 0, .float .f64 0, .float .f64 0, .float .f64 0, .float .f64 0, .float .f64 0]) (blk_put (cs := #[.float .f64 4607182418800017408, .float .f64 0, .float .f64 4604544271217802189, .float .f64 13827916308072577997, .float .f64 0, .float .f64 13830554455654793216, .float .f64 13827916308072577997, .float .f64 13827916308072577997, .float .f64 13830554455654793216, .float .f64 0, .float .f64 0, .float .f64 0, .float .f64 0, .float .f64 0, .float .f64 0, .float .f64 0]) (blk_put (cs := #[.float .f64 4607182418800017408, .float .f64 0, .float .f64 4604544271217802189, .float .f64 13827916308072577997, .float .f64 0, .float .f64 13830554455654793216, .float .f64 13827916308072577997, .float .f64 13827916308072577997, .float .f64 0, .float .f64 0, .float .f64 0, .float .f64 0, .float .f64 0, .float .f64 0, .float .f64 0, .float .f64 0]) (blk_put (cs := #[.float .f64 4607182418800017408, .float .f64 0, .float .f64 4604544271217802189, .float .f64 13827916308072577997, .float .f64 0, .float .f64 13830554455654793216, .float .f64 13827916308072577997, .float .f64 0, .float .f64 0, .float .f64 0, .float .f64 0, .float .f64 0, .float .f64 0, .float .f64 0, .float .f64 0, .float .f64 0]) (blk_put (cs := #[.float .f64 4607182418800017408, .float .f64 0, .float .f64 4604544271217802189, .float .f64 13827916308072577997, .float .f64 0, .float .f64 13830554455654793216, .float .f64 0, .float .f64 0, .float .f64 0, .float .f64 0, .float .f64 0, .float .f64 0, .float .f64 0, .float .f64 0, .float .f64 0, .float .f64 0]) (blk_put (cs := #[.float .f64 4607182418800017408, .float .f64 0, .float .f64 4604544271217802189, .float .f64 13827916308072577997, .float .f64 0, .float .f64 0, .float .f64 0, .float .f64 0, .float .f64 0, .float .f64 0, .float .f64 0, .float .f64 0, .float .f64 0, .float .f64 0, .float .f64 0, .float .f64 0]) (blk_put (cs := #[.float .f64 4607182418800017408, .float .f64 0, .float .f64 4604544271217802189, .float .f64 13827916308072577997, .float .f64 0, .float .f64 0, .float .f64 0, .float .f64 0, .float .f64 0, .float .f64 0, .float .f64 0, .float .f64 0, .float .f64 0, .float .f64 0, .float .f64 0, .float .f64 0]) (blk_put (cs := #[.float .f64 4607182418800017408, .float .f64 0, .float .f64 4604544271217802189, .float .f64 0, .float .f64 0, .float .f64 0, .float .f64 0, .float .f64 0, .float .f64 0, .float .f64 0, .float .f64 0, .float .f64 0, .float .f64 0, .float .f64 0, .float .f64 0, .float .f64 0]) (blk_put (cs := #[.float .f64 4607182418800017408, .float .f64 0, .float .f64 0, .float .f64 0, .float .f64 0, .float .f64 0, .float .f64 0, .float .f64 0, .float .f64 0, .float .f64 0, .float .f64 0, .float .f64 0, .float .f64 0, .float .f64 0, .float .f64 0, .float .f64 0]) (blk_put (cs := #[.float .f64 4607182418800017408, .float .f64 0, .float .f64 0, .float .f64 0, .float .f64 0, .float .f64 0, .float .f64 0, .float .f64 0, .float .f64 0, .float .f64 0, .float .f64 0, .float .f64 0, .float .f64 0, .float .f64 0, .float .f64 0, .float .f64 0]) (blk_put (cs := #[.float .f64 0, .float .f64 0, .float .f64 0, .float .f64 0, .float .f64 0, .float .f64 0, .float .f64 0, .float .f64 0, .float .f64 0, .float .f64 0, .float .f64 0, .float .f64 0, .float .f64 0, .float .f64 0, .float .f64 0, .float .f64 0]) BKA.out 0 (.float .f64 4607182418800017408) rfl) 1 (.float .f64 0) rfl) 2 (.float .f64 4604544271217802189) rfl) 3 (.float .f64 13827916308072577997) rfl) 4 (.float .f64 0) rfl) 5 (.float .f64 13830554455654793216) rfl) 6 (.float .f64 13827916308072577997) rfl) 7 (.float .f64 13827916308072577997) rfl) 8 (.float .f64 13830554455654793216) rfl) 9 (.float .f64 0) rfl) 10 (.float .f64 13827916308072577997) rfl) 11 (.float .f64 4604544271217802189) rfl) 12 (.float .f64 0) rfl) 13 (.float .f64 4607182418800017408) rfl) 14 (.float .f64 4604544271217802189) rfl) 15 (.float .f64 4604544271217802189) rfl) GEA.out (by simp) (Reps.c2 (show Kd.M k40 _ _ _ (⟨4607182418800017408, 0⟩ : S40) [.float .f64 4607182418800017408, .float .f64 0] from (k40_mkM _ _ _ (⟨4607182418800017408, 0⟩ : S40) )) (Reps.c2 (show Kd.M k40 _ _ _ (⟨4604544271217802189, 13827916308072577997⟩ : S40) [.float .f64 4604544271217802189, .float .f64 13827916308072577997] from (k40_mkM _ _ _ (⟨4604544271217802189, 13827916308072577997⟩ : S40) )) (Reps.c2 (show Kd.M k40 _ _ _ (⟨0, 13830554455654793216⟩ : S40) [.float .f64 0, .float .f64 13830554455654793216] from (k40_mkM _ _ _ (⟨0, 13830554455654793216⟩ : S40) )) (Reps.c2 (show Kd.M k40 _ _ _ (⟨13827916308072577997, 13827916308072577997⟩ : S40) [.float .f64 13827916308072577997, .float .f64 13827916308072577997] from (k40_mkM _ _ _ (⟨13827916308072577997, 13827916308072577997⟩ : S40) )) (Reps.c2 (show Kd.M k40 _ _ _ (⟨13830554455654793216, 0⟩ : S40) [.float .f64 13830554455654793216, .float .f64 0] from (k40_mkM _ _ _ (⟨13830554455654793216, 0⟩ : S40) )) (Reps.c2 (show Kd.M k40 _ _ _ (⟨13827916308072577997, 4604544271217802189⟩ : S40) [.float .f64 13827916308072577997, .float .f64 4604544271217802189] from (k40_mkM _ _ _ (⟨13827916308072577997, 4604544271217802189⟩ : S40) )) (Reps.c2 (show Kd.M k40 _ _ _ (⟨0, 4607182418800017408⟩ : S40) [.float .f64 0, .float .f64 4607182418800017408] from (k40_mkM _ _ _ (⟨0, 4607182418800017408⟩ : S40) )) (Reps.c2 (show Kd.M k40 _ _ _ (⟨4604544271217802189, 4604544271217802189⟩ : S40) [.float .f64 4604544271217802189, .float .f64 4604544271217802189] from (k40_mkM _ _ _ (⟨4604544271217802189, 4604544271217802189⟩ : S40) )) (Reps.none _ _)))))))))⟩⟩; have n1_ : Aside0 (Below w.heap.size w ((((((((((((((((w10.setCell ⟨gA, 0, none⟩ (.float .f64 4607182418800017408)).setCell ⟨gA, 1, none⟩ (.float .f64 0)).setCell ⟨gA, 2, none⟩ (.float .f64 4604544271217802189)).setCell ⟨gA, 3, none⟩ (.float .f64 13827916308072577997)).setCell ⟨gA, 4, none⟩ (.float .f64 0)).setCell ⟨gA, 5, none⟩ (.float .f64 13830554455654793216)).setCell ⟨gA, 6, none⟩ (.float .f64 13827916308072577997)).setCell ⟨gA, 7, none⟩ (.float .f64 13827916308072577997)).setCell ⟨gA, 8, none⟩ (.float .f64 13830554455654793216)).setCell ⟨gA, 9, none⟩ (.float .f64 0)).setCell ⟨gA, 10, none⟩ (.float .f64 13827916308072577997)).setCell ⟨gA, 11, none⟩ (.float .f64 4604544271217802189)).setCell ⟨gA, 12, none⟩ (.float .f64 0)).setCell ⟨gA, 13, none⟩ (.float .f64 4607182418800017408)).setCell ⟨gA, 14, none⟩ (.float .f64 4604544271217802189)).setCell ⟨gA, 15, none⟩ (.float .f64 4604544271217802189))) := ⟨by repeat (first | (with_reducible first | exact HB.out | refine below_set ?_ GEA.out) | exact HB.out)⟩; clear HB; have HB := n1_; clear n1_; clear hcA_0 hfA_0; clear hcA_1 hfA_1; clear hcA_2 hfA_2; clear hcA_3 hfA_3; clear hcA_4 hfA_4; clear hcA_5 hfA_5; clear hcA_6 hfA_6; clear hcA_7 hfA_7; clear hcA_8 hfA_8; clear hcA_9 hfA_9; clear hcA_10 hfA_10; clear hcA_11 hfA_11; clear hcA_12 hfA_12; clear hcA_13 hfA_13; clear hcA_14 hfA_14; clear hcA_15 hfA_15; refine Kd.R_make k40 _ 40 rfl (N := 38) rfl 35 _ _ rfl 8 rfl rfl Try.underlying35 (.agg #[(.float .f64 0), (.float .f64 0)]) 16 info40 rfl (by decide) (by omega) z40 (ok := fun _ => True) (okp := fun _ => True) (k40_mkM _ _ _ z40 ) (fun _ hk => hk) trivial (by omega) (by omega) (Below.refl _ _) (Nat.le_refl _) ?_; intro v119 w12 ho13 hb hg_ hnew_; clear hg_ hnew_; (first | rw [← Ny118.out] at ho13 | (simp only [Int.reduceToNat] at ho13; rw [← Ny118.out] at ho13)); have n0_ := Aside0.mk (Kd.R_elder' (by (with_reducible repeat (first | apply Kd.R_alloc | apply Kd.R_drewN | apply Kd.R_drew)); exact HO117.out) (Kd.R_base ho13) hb); have n1_ := Aside0.mk (Kd.R_lower (Kd.R_new' ho13 (Kd.R_lt (by (with_reducible repeat (first | apply Kd.R_alloc | apply Kd.R_drewN | apply Kd.R_drew)); exact HO117.out))) (below_size (by repeat (first | (with_reducible first | exact HB.out | apply below_alloc | apply pw_below_drewN | apply below_drew1) | exact HB.out)))); have n2_ := Aside0.mk (below_step (by repeat (first | (with_reducible first | exact HB.out | apply below_alloc | apply pw_below_drewN | apply below_drew1) | exact HB.out)) hb); clear HO117; clear HB; have HO117 := n0_; have HO120 := n1_; have HB := n2_; clear n0_ n1_ n2_; clear hb ho13; obtain ⟨Ao14, co14, eo14⟩ := Kd.R_slice HO120.out; subst eo14))
              go_loopg [41] k1 (fun kq v41 w' => ∃ (x7_2 : List (S40)) (x41_2 : Int), v41 = .int .i64 x41_2 ∧ Aside0 (impl_Spectrum.l1 kq l0 y115 x7_2 (y118.length : Int) x41_2 = some (r1, r2)) ∧ Aside0 (kq ≤ k1) ∧ Aside0 (Kd.R k40 65 w' w.heap.size (fun k_ => some k_ ≠ ((.slice Ao14 y118.length co14) : Value).ownBlock) v116 y115) ∧ Aside0 (Kd.R k40 40 w' w.heap.size (fun k_ => some k_ ≠ (v116 : Value).ownBlock) (.slice Ao14 y118.length co14) x7_2) ∧ Aside0 (Below w.heap.size w w'))
              case atStart => exact ⟨(y118), (0), (by first | rfl | (simp; done) | (simp [*]; done)), H', ⟨Nat.le_refl _⟩, ⟨by (with_reducible repeat (first | apply Kd.R_alloc | apply Kd.R_drewN | apply Kd.R_drew)); exact Kd.R_mono HO117.out (fun _ hk => hk.2)⟩, ⟨by (with_reducible repeat (first | apply Kd.R_alloc | apply Kd.R_drewN | apply Kd.R_drew)); exact Kd.R_mono HO120.out (fun _ hk => hk.2)⟩, ⟨by repeat (first | (with_reducible first | exact HB.out | apply below_alloc | apply pw_below_drewN | apply below_drew1) | exact HB.out)⟩⟩
              case round =>
                clear H'
                try clear c1
                try clear p1
                try clear q1
                try clear hx1
                try clear c2
                try clear c2b0
                try clear c2b1
                try clear p2
                try clear c3
                try clear c3b0
                try clear c3b1
                try clear c4
                try clear c4b0
                try clear c5
                try clear c5b0
                try clear c6
                try clear c6b0
                try clear p6
                try clear c8
                try clear c9
                try clear c9b0
                try clear c9b1
                try clear p11
                try clear q11
                try clear hx11
                try clear hx113_0
                try clear p113
                try clear p2
                try clear q113
                obtain ⟨x7_2, x41_2, rfl, HA, HK2, HO_6, HO_7, HB⟩ := hrel
                have hl7_2 := (Kd.R_reads' HO_7.out).1
                rw [hl7_2] at HO_7
                (try simp only [hl7_2])
                (try simp only [hl7_2] at HO_6)
                cases gk with
                | zero => exact absurd HA.out (by simp [impl_Spectrum.l1])
                | succ k2 =>
                  have H := HA.out
                  clear HA
                  simp only [impl_Spectrum.l1] at H
                  by_cases c15 : x41_2 < (y118.length : Int)
                  · rw [if_pos c15] at H
                    have c15b0 : decide (x41_2 < (y118.length : Int)) = true := decide_eq_true c15
                    (try (have c15b0l := c15b0; rw [hl7_2] at c15b0l))
                    clear c15
                    have H' := Aside0.mk H
                    clear H
                    go_wp2
                    go_loopg [46] k2 (fun kq v46 w' => ∃ (x7_3 : List (S40)) (x46_3 : Int), v46 = .int .i64 x46_3 ∧ Aside0 (impl_Spectrum.l2 kq l0 y115 x7_3 x41_2 (y118.length : Int) x41_2 l0 (l0.length : Int) x46_3 = some (r1, r2)) ∧ Aside0 (kq ≤ k2) ∧ Aside0 (Kd.R k40 65 w' w.heap.size (fun k_ => some k_ ≠ ((.slice Ao14 x7_2.length co14) : Value).ownBlock) v116 y115) ∧ Aside0 (Kd.R k40 40 w' w.heap.size (fun k_ => some k_ ≠ (v116 : Value).ownBlock) (.slice Ao14 x7_2.length co14) x7_3) ∧ Aside0 (Below w.heap.size w w'))
                    case atStart => exact ⟨(x7_2), (0), (by first | rfl | (simp; done) | (simp [*]; done)), H', ⟨Nat.le_refl _⟩, ⟨by (try simp only [hl7_2]); (with_reducible repeat (first | apply Kd.R_alloc | apply Kd.R_drewN | apply Kd.R_drew)); exact HO_6.out⟩, ⟨by (try simp only [hl7_2]); (with_reducible repeat (first | apply Kd.R_alloc | apply Kd.R_drewN | apply Kd.R_drew)); exact HO_7.out⟩, ⟨by repeat (first | (with_reducible first | exact HB.out | apply below_alloc | apply pw_below_drewN | apply below_drew1) | exact HB.out)⟩⟩
                    case round =>
                      clear H'
                      try clear c1
                      try clear p1
                      try clear q1
                      try clear hx1
                      try clear c2
                      try clear c2b0
                      try clear c2b1
                      try clear p2
                      try clear c3
                      try clear c3b0
                      try clear c3b1
                      try clear c4
                      try clear c4b0
                      try clear c5
                      try clear c5b0
                      try clear c6
                      try clear c6b0
                      try clear p6
                      try clear c8
                      try clear c9
                      try clear c9b0
                      try clear c9b1
                      try clear p11
                      try clear q11
                      try clear hx11
                      try clear c15
                      try clear c15b0
                      try clear hx113_0
                      try clear p1
                      try clear p11
                      try clear p113
                      try clear p2
                      try clear p6
                      try clear q1
                      try clear q11
                      try clear q113
                      obtain ⟨x7_3, x46_3, rfl, HA, HK3, HO_6, HO_7, HB⟩ := hrel
                      have hl7_3 := (Kd.R_reads' HO_7.out).1
                      rw [hl7_3] at HO_7
                      (try simp only [hl7_3])
                      (try simp only [hl7_3] at HO_6)
                      cases gk with
                      | zero => exact absurd HA.out (by simp [impl_Spectrum.l2])
                      | succ k3 =>
                        have H := HA.out
                        clear HA
                        simp only [impl_Spectrum.l2] at H
                        by_cases c16 : x46_3 < (l0.length : Int)
                        · rw [if_pos c16] at H
                          have c16b0 : decide (x46_3 < (l0.length : Int)) = true := decide_eq_true c16
                          (try (have c16b0l := c16b0; rw [hl7_2] at c16b0l))
                          (try (have c16b0l := c16b0; rw [hl7_3] at c16b0l))
                          clear c16
                          by_cases c17 : 0 ≤ x46_3
                          · rw [if_pos c17] at H
                            have c17b0 : decide (0 ≤ x46_3) = true := decide_eq_true c17
                            clear c17
                            by_cases c18 : x46_3 < (l0.length : Int)
                            · rw [if_pos c18] at H
                              have c18b0 : decide (x46_3 < (l0.length : Int)) = true := decide_eq_true c18
                              (try (have c18b0l := c18b0; rw [hl7_2] at c18b0l))
                              (try (have c18b0l := c18b0; rw [hl7_3] at c18b0l))
                              clear c18
                              obtain ⟨ji19, hji19⟩ : ∃ j_ : Int, (Int.tmod (wrap64 (x46_3 * x41_2)) 8) = j_ := ⟨_, rfl⟩
                              replace H : (if 0 ≤ (ji19) then (if (ji19) < (y115.length : Int) then (if fOk .mul .f64 (rdOf (0 : Nat) l0 x46_3) ((rd_T40 y115 (ji19)).f0) = true then (if fOk .mul .f64 (rdOf (0 : Nat) l0 x46_3) ((rd_T40 y115 (ji19)).f1) = true then (if 0 ≤ x41_2 then (if x41_2 < (x7_3.length : Int) then ((impl_addTone.f ((rd_T40 x7_3 x41_2).f0) ((rd_T40 x7_3 x41_2).f1) (fOf .mul .f64 (rdOf (0 : Nat) l0 x46_3) ((rd_T40 y115 (ji19)).f0)) (fOf .mul .f64 (rdOf (0 : Nat) l0 x46_3) ((rd_T40 y115 (ji19)).f1))).bind fun bt126 => (impl_Spectrum.l2 k3 l0 y115 (x7_3.set (x41_2 : Int).toNat (⟨bt126.1, bt126.2⟩ : S40)) x41_2 (y118.length : Int) x41_2 l0 (l0.length : Int) (wrap64 (x46_3 + 1)))) else (none)) else (none)) else (none)) else (none)) else (none)) else (none)) = some (r1, r2) := by first | (rw [hji19] at H; exact H) | (simp only [hji19] at H ⊢; exact H)
                              by_cases c20 : 0 ≤ (ji19)
                              · rw [if_pos c20] at H
                                have c20b0 : decide (0 ≤ (ji19)) = true := decide_eq_true c20
                                clear c20
                                by_cases c21 : (ji19) < (y115.length : Int)
                                · rw [if_pos c21] at H
                                  have c21b0 : decide ((ji19) < (y115.length : Int)) = true := decide_eq_true c21
                                  (try (have c21b0l := c21b0; rw [hl7_2] at c21b0l))
                                  (try (have c21b0l := c21b0; rw [hl7_3] at c21b0l))
                                  clear c21
                                  by_cases c22 : fOk .mul .f64 (rdOf (0 : Nat) l0 x46_3) ((rd_T40 y115 (ji19)).f0) = true
                                  · rw [if_pos c22] at H
                                    have c22b0 := eq_true c22
                                    have c22b1 : decide (fOk .mul .f64 (rdOf (0 : Nat) l0 x46_3) ((rd_T40 y115 (ji19)).f0) = true) = true := decide_eq_true c22
                                    clear c22
                                    by_cases c23 : fOk .mul .f64 (rdOf (0 : Nat) l0 x46_3) ((rd_T40 y115 (ji19)).f1) = true
                                    · rw [if_pos c23] at H
                                      have c23b0 := eq_true c23
                                      have c23b1 : decide (fOk .mul .f64 (rdOf (0 : Nat) l0 x46_3) ((rd_T40 y115 (ji19)).f1) = true) = true := decide_eq_true c23
                                      clear c23
                                      by_cases c24 : 0 ≤ x41_2
                                      · rw [if_pos c24] at H
                                        have c24b0 : decide (0 ≤ x41_2) = true := decide_eq_true c24
                                        clear c24
                                        by_cases c25 : x41_2 < (x7_3.length : Int)
                                        · rw [if_pos c25] at H
                                          have c25b0 : decide (x41_2 < (x7_3.length : Int)) = true := decide_eq_true c25
                                          (try (have c25b0l := c25b0; rw [hl7_2] at c25b0l))
                                          (try (have c25b0l := c25b0; rw [hl7_3] at c25b0l))
                                          clear c25
                                          replace H := Option.bind_eq_some_iff.mp H
                                          obtain ⟨⟨t126, t127⟩, A260, H⟩ := H
                                          replace H : (impl_Spectrum.l2 k3 l0 y115 (x7_3.set (x41_2 : Int).toNat (⟨t126, t127⟩ : S40)) x41_2 (y118.length : Int) x41_2 l0 (l0.length : Int) (wrap64 (x46_3 + 1))) = some (r1, r2) := H
                                          have A26 := Aside0.mk A260
                                          clear A260
                                          obtain ⟨y128, hy128⟩ : ∃ y_ : List (S40), y_ = (x7_3.set (x41_2 : Int).toNat (⟨t126, t127⟩ : S40)) := ⟨_, rfl⟩
                                          replace H : (impl_Spectrum.l2 k3 l0 y115 y128 x41_2 (y118.length : Int) x41_2 l0 (l0.length : Int) (wrap64 (x46_3 + 1))) = some (r1, r2) := by first | (rw [hy128]; with_reducible exact H) | (have H2_ := (Option.bind_some _ _).symm.trans H; rw [hy128]; with_reducible exact H2_) | (have H2_ := (Option.bind_some _ _).symm.trans H; with_reducible exact H2_) | with_reducible exact H | (rw [hy128]; exact H) | exact H
                                          have Ny128 := Aside0.mk hy128
                                          clear hy128
                                          have H' := Aside0.mk H
                                          clear H
                                          have p121 : 0 ≤ (x46_3 : Int) := of_decide_eq_true (by first | (with_reducible assumption) | assumption)
                                          have q121 : x46_3 < (l0.length : Int) := of_decide_eq_true (by first | (with_reducible assumption) | assumption)
                                          obtain ⟨ad121, e121, hx121_0⟩ := Kd.at_flt HR0.out x46_3 p121 q121
                                          cases e121
                                          replace hx121_0 := (HB.out.cell (World.block_lt_of_cell? w _ hx121_0)).trans hx121_0
                                          replace p121 := eq_true p121
                                          replace q121 := eq_true q121
                                          obtain ⟨Ao28, co28, eo28⟩ := Kd.R_slice HO_6.out
                                          subst eo28
                                          have p122 : 0 ≤ ((ji19) : Int) := of_decide_eq_true (by first | (with_reducible assumption) | assumption)
                                          have q122 : (ji19) < (y115.length : Int) := of_decide_eq_true (by first | (with_reducible assumption) | assumption)
                                          obtain ⟨ad122, e122, hx122_0, hx122_1⟩ := at_T40 (Kd.R_reads' HO_6.out).2.2 (ji19) p122 q122
                                          cases e122
                                          have hv_ := HV_.out
                                          injection hv_ with hva hvb hvc
                                          have hva := Option.some.inj hva
                                          have hxa122_0 := hx122_0; rw [hva] at hxa122_0; simp only [arr_add] at hxa122_0
                                          have hxa122_1 := hx122_1; rw [hva] at hxa122_1; simp only [arr_add] at hxa122_1
                                          have q8_ : (ji19) < (8 : Int) := by omega
                                          replace q8_ := eq_true q8_
                                          have HVa := Aside0.mk hva
                                          clear hva hvb hvc
                                          replace p122 := eq_true p122
                                          replace q122 := eq_true q122
                                          try go_wp2_with (first | ((with_reducible refine gate_dst (N := 11) rfl ?_); refine box_event ?hg (N := 11) ?hd (cs := #[.float .f64 0, .float .f64 0]) (t := 40) ?hr ?_; (case hd => rfl); (case hg => rfl); (case hr => first | (go_simp; done) | (go_simp; rfl)); intro gb123 hg w29 hbox hb; have n0_ := Aside0.mk (Kd.R_below (Kd.R_elderB (by (with_reducible repeat (first | apply Kd.R_alloc | apply Kd.R_drewN | apply Kd.R_drew)); exact HO_6.out) gb123 (Nat.le_of_eq hg.symm)) hb); have n1_ := Aside0.mk (Kd.R_below (Kd.R_elderB (by (with_reducible repeat (first | apply Kd.R_alloc | apply Kd.R_drewN | apply Kd.R_drew)); exact HO_7.out) gb123 (Nat.le_of_eq hg.symm)) hb); have n2_ := Aside0.mk (below_step (by repeat (first | (with_reducible first | exact HB.out | apply below_alloc | apply pw_below_drewN | apply below_drew1) | exact HB.out)) hb); have n3_ := Aside0.mk (hbox); have n4_ := Aside0.mk ((by rw [hg]; exact (below_size (by repeat (first | (with_reducible first | exact HB.out | apply below_alloc | apply pw_below_drewN | apply below_drew1) | exact HB.out))) : w.heap.size ≤ gb123)); have n5_ := Aside0.mk ((by rw [hg]; exact (below_size (by repeat (first | (with_reducible first | exact HB.out | apply below_alloc | apply pw_below_drewN | apply below_drew1) | exact HB.out))) : w.heap.size ≤ gb123)); clear HO_6; clear HO_7; clear HB; have HO_6 := n0_; have HO_7 := n1_; have HB := n2_; have BK123 := n3_; have GW123 := n4_; have GE123 := n5_; clear n0_ n1_ n2_ n3_ n4_ n5_; clear hb hbox hg; have hcz30_0 : w29.cell? ⟨gb123, 0, none⟩ = some (.float .f64 0) := (blk_cell BK123.out 0).trans rfl; have hcz30_1 : w29.cell? ⟨gb123, 1, none⟩ = some (.float .f64 0) := (blk_cell BK123.out 1).trans rfl; have hfz30_0 := blk_frozen BK123.out 0; have hfz30_1 := blk_frozen BK123.out 1) | ((with_reducible refine gate_dst (N := 12) rfl ?_); refine box_event ?hg (N := 12) ?hd (cs := #[.float .f64 0, .float .f64 0]) (t := 40) ?hr ?_; (case hd => rfl); (case hg => rfl); (case hr => first | (go_simp; done) | (go_simp; rfl)); intro gb124 hg w31 hbox hb; have n0_ := Aside0.mk (Kd.R_below (Kd.R_elderB (by (with_reducible repeat (first | apply Kd.R_alloc | apply Kd.R_drewN | apply Kd.R_drew)); exact (Kd.R_mono (Kd.R_far (p := ⟨gb123, 1, none⟩) (Kd.R_far (p := ⟨gb123, 0, none⟩) (Kd.R_mono HO_6.out (fun k_ hk => (⟨hk, hk.2⟩ : _ ∧ k_ ≠ gb123))) (fun _ hk => hk.2) (.float .f64 ((rd_T40 y115 (ji19)).f0))) (fun _ hk => hk.2) (.float .f64 ((rd_T40 y115 (ji19)).f1))) (fun _ h_ => h_.1))) gb124 (Nat.le_of_eq hg.symm)) hb); have n1_ := Aside0.mk (Kd.R_below (Kd.R_elderB (by (with_reducible repeat (first | apply Kd.R_alloc | apply Kd.R_drewN | apply Kd.R_drew)); exact (Kd.R_mono (Kd.R_far (p := ⟨gb123, 1, none⟩) (Kd.R_far (p := ⟨gb123, 0, none⟩) (Kd.R_mono HO_7.out (fun k_ hk => (⟨hk, hk.2⟩ : _ ∧ k_ ≠ gb123))) (fun _ hk => hk.2) (.float .f64 ((rd_T40 y115 (ji19)).f0))) (fun _ hk => hk.2) (.float .f64 ((rd_T40 y115 (ji19)).f1))) (fun _ h_ => h_.1))) gb124 (Nat.le_of_eq hg.symm)) hb); have n2_ := Aside0.mk (blk_below (g := gb123) (o := .cells #[.float .f64 ((rd_T40 y115 (ji19)).f0), .float .f64 ((rd_T40 y115 (ji19)).f1)] 40 (0, 0)) (by (with_reducible repeat (first | refine blk_drewN ?_ _ | refine blk_drew ?_ | refine blk_alloc ?_ _)); refine blk_put (cs := #[.float .f64 ((rd_T40 y115 (ji19)).f0), .float .f64 0]) ?_ 1 _ rfl; (with_reducible repeat (first | refine blk_drewN ?_ _ | refine blk_drew ?_ | refine blk_alloc ?_ _)); refine blk_put (cs := #[.float .f64 0, .float .f64 0]) ?_ 0 _ rfl; (with_reducible repeat (first | refine blk_drewN ?_ _ | refine blk_drew ?_ | refine blk_alloc ?_ _)); exact BK123.out) hb); have n3_ := Aside0.mk (below_step (by repeat (first | (with_reducible first | exact HB.out | apply below_alloc | apply pw_below_drewN | apply below_drew1 | refine below_set ?_ GE123.out) | exact HB.out)) hb); have n4_ := Aside0.mk (hbox); have n5_ := Aside0.mk ((by rw [hg]; exact (below_size (by repeat (first | (with_reducible first | exact HB.out | apply below_alloc | apply pw_below_drewN | apply below_drew1 | refine below_set ?_ GE123.out) | exact HB.out))) : w.heap.size ≤ gb124)); have n6_ := Aside0.mk ((by rw [hg]; exact (below_size (by repeat (first | (with_reducible first | exact HB.out | apply below_alloc | apply pw_below_drewN | apply below_drew1 | refine below_set ?_ GE123.out) | exact HB.out))) : w.heap.size ≤ gb124)); have n7_ := Aside0.mk ((by rw [hg]; exact Nat.ne_of_lt (blk_lt (g := gb123) (o := .cells #[.float .f64 ((rd_T40 y115 (ji19)).f0), .float .f64 ((rd_T40 y115 (ji19)).f1)] 40 (0, 0)) (by (with_reducible repeat (first | refine blk_drewN ?_ _ | refine blk_drew ?_ | refine blk_alloc ?_ _)); refine blk_put (cs := #[.float .f64 ((rd_T40 y115 (ji19)).f0), .float .f64 0]) ?_ 1 _ rfl; (with_reducible repeat (first | refine blk_drewN ?_ _ | refine blk_drew ?_ | refine blk_alloc ?_ _)); refine blk_put (cs := #[.float .f64 0, .float .f64 0]) ?_ 0 _ rfl; (with_reducible repeat (first | refine blk_drewN ?_ _ | refine blk_drew ?_ | refine blk_alloc ?_ _)); exact BK123.out)) : gb123 ≠ gb124)); have n8_ := Aside0.mk ((by rw [hg]; exact Nat.ne_of_gt (blk_lt (g := gb123) (o := .cells #[.float .f64 ((rd_T40 y115 (ji19)).f0), .float .f64 ((rd_T40 y115 (ji19)).f1)] 40 (0, 0)) (by (with_reducible repeat (first | refine blk_drewN ?_ _ | refine blk_drew ?_ | refine blk_alloc ?_ _)); refine blk_put (cs := #[.float .f64 ((rd_T40 y115 (ji19)).f0), .float .f64 0]) ?_ 1 _ rfl; (with_reducible repeat (first | refine blk_drewN ?_ _ | refine blk_drew ?_ | refine blk_alloc ?_ _)); refine blk_put (cs := #[.float .f64 0, .float .f64 0]) ?_ 0 _ rfl; (with_reducible repeat (first | refine blk_drewN ?_ _ | refine blk_drew ?_ | refine blk_alloc ?_ _)); exact BK123.out)) : gb124 ≠ gb123)); clear HO_6; clear HO_7; clear BK123; clear HB; have HO_6 := n0_; have HO_7 := n1_; have BK123 := n2_; have HB := n3_; have BK124 := n4_; have GW124 := n5_; have GE124 := n6_; have NB123_124 := n7_; have NB124_123 := n8_; clear n0_ n1_ n2_ n3_ n4_ n5_ n6_ n7_ n8_; clear hb hbox hg; have hnb32 := NB124_123.out; have hnc32 := NB123_124.out; have hcz33_0 : w31.cell? ⟨gb124, 0, none⟩ = some (.float .f64 0) := (blk_cell BK124.out 0).trans rfl; have hcz33_1 : w31.cell? ⟨gb124, 1, none⟩ = some (.float .f64 0) := (blk_cell BK124.out 1).trans rfl; have hfz33_0 := blk_frozen BK124.out 0; have hfz33_1 := blk_frozen BK124.out 1))
                                          have n0_ : Aside0 (Kd.R k40 65 ((w31.setCell ⟨gb124, 0, none⟩ (.float .f64 (fOf .mul .f64 (rdOf (0 : Nat) l0 x46_3) ((rd_T40 y115 (ji19)).f0)))).setCell ⟨gb124, 1, none⟩ (.float .f64 (fOf .mul .f64 (rdOf (0 : Nat) l0 x46_3) ((rd_T40 y115 (ji19)).f1)))) w.heap.size (fun k_ => some k_ ≠ (.slice Ao14 x7_3.length co14 : Value).ownBlock ∧ k_ ≠ gb123 ∧ k_ ≠ gb124) (.slice (some ad122) y115.length co28) y115) := ⟨by (with_reducible repeat (first | apply Kd.R_alloc | apply Kd.R_drewN | apply Kd.R_drew)); exact Kd.R_mono (Kd.R_far (p := ⟨gb124, 1, none⟩) (Kd.R_far (p := ⟨gb124, 0, none⟩) (Kd.R_mono HO_6.out (fun k_ hk => (⟨hk, hk.2⟩ : _ ∧ k_ ≠ gb124))) (fun _ hk => hk.2) (.float .f64 (fOf .mul .f64 (rdOf (0 : Nat) l0 x46_3) ((rd_T40 y115 (ji19)).f0)))) (fun _ hk => hk.2) (.float .f64 (fOf .mul .f64 (rdOf (0 : Nat) l0 x46_3) ((rd_T40 y115 (ji19)).f1)))) (fun _ hk => ⟨hk.1.1.1, ⟨hk.1.1.2, hk.1.2⟩⟩)⟩
                                          have n1_ : Aside0 (Kd.R k40 40 ((w31.setCell ⟨gb124, 0, none⟩ (.float .f64 (fOf .mul .f64 (rdOf (0 : Nat) l0 x46_3) ((rd_T40 y115 (ji19)).f0)))).setCell ⟨gb124, 1, none⟩ (.float .f64 (fOf .mul .f64 (rdOf (0 : Nat) l0 x46_3) ((rd_T40 y115 (ji19)).f1)))) w.heap.size (fun k_ => some k_ ≠ (.slice (some ad122) y115.length co28 : Value).ownBlock ∧ k_ ≠ gb123 ∧ k_ ≠ gb124) (.slice Ao14 x7_3.length co14) x7_3) := ⟨by (with_reducible repeat (first | apply Kd.R_alloc | apply Kd.R_drewN | apply Kd.R_drew)); exact Kd.R_mono (Kd.R_far (p := ⟨gb124, 1, none⟩) (Kd.R_far (p := ⟨gb124, 0, none⟩) (Kd.R_mono HO_7.out (fun k_ hk => (⟨hk, hk.2⟩ : _ ∧ k_ ≠ gb124))) (fun _ hk => hk.2) (.float .f64 (fOf .mul .f64 (rdOf (0 : Nat) l0 x46_3) ((rd_T40 y115 (ji19)).f0)))) (fun _ hk => hk.2) (.float .f64 (fOf .mul .f64 (rdOf (0 : Nat) l0 x46_3) ((rd_T40 y115 (ji19)).f1)))) (fun _ hk => ⟨hk.1.1.1, ⟨hk.1.1.2, hk.1.2⟩⟩)⟩
                                          have n2_ : Aside0 (((w31.setCell ⟨gb124, 0, none⟩ (.float .f64 (fOf .mul .f64 (rdOf (0 : Nat) l0 x46_3) ((rd_T40 y115 (ji19)).f0)))).setCell ⟨gb124, 1, none⟩ (.float .f64 (fOf .mul .f64 (rdOf (0 : Nat) l0 x46_3) ((rd_T40 y115 (ji19)).f1)))).heap[gb123]? = some (.cells #[.float .f64 ((rd_T40 y115 (ji19)).f0), .float .f64 ((rd_T40 y115 (ji19)).f1)] 40 (0, 0))) := ⟨by (with_reducible repeat (first | refine blk_drewN ?_ _ | refine blk_drew ?_ | refine blk_alloc ?_ _)); refine blk_far ?_ NB123_124.out _; (with_reducible repeat (first | refine blk_drewN ?_ _ | refine blk_drew ?_ | refine blk_alloc ?_ _)); refine blk_far ?_ NB123_124.out _; (with_reducible repeat (first | refine blk_drewN ?_ _ | refine blk_drew ?_ | refine blk_alloc ?_ _)); exact BK123.out⟩
                                          have n3_ : Aside0 (((w31.setCell ⟨gb124, 0, none⟩ (.float .f64 (fOf .mul .f64 (rdOf (0 : Nat) l0 x46_3) ((rd_T40 y115 (ji19)).f0)))).setCell ⟨gb124, 1, none⟩ (.float .f64 (fOf .mul .f64 (rdOf (0 : Nat) l0 x46_3) ((rd_T40 y115 (ji19)).f1)))).heap[gb124]? = some (.cells #[.float .f64 (fOf .mul .f64 (rdOf (0 : Nat) l0 x46_3) ((rd_T40 y115 (ji19)).f0)), .float .f64 (fOf .mul .f64 (rdOf (0 : Nat) l0 x46_3) ((rd_T40 y115 (ji19)).f1))] 40 (0, 0))) := ⟨by (with_reducible repeat (first | refine blk_drewN ?_ _ | refine blk_drew ?_ | refine blk_alloc ?_ _)); refine blk_put (cs := #[.float .f64 (fOf .mul .f64 (rdOf (0 : Nat) l0 x46_3) ((rd_T40 y115 (ji19)).f0)), .float .f64 0]) ?_ 1 _ rfl; (with_reducible repeat (first | refine blk_drewN ?_ _ | refine blk_drew ?_ | refine blk_alloc ?_ _)); refine blk_put (cs := #[.float .f64 0, .float .f64 0]) ?_ 0 _ rfl; (with_reducible repeat (first | refine blk_drewN ?_ _ | refine blk_drew ?_ | refine blk_alloc ?_ _)); exact BK124.out⟩
                                          have n4_ : Aside0 (Below w.heap.size w ((w31.setCell ⟨gb124, 0, none⟩ (.float .f64 (fOf .mul .f64 (rdOf (0 : Nat) l0 x46_3) ((rd_T40 y115 (ji19)).f0)))).setCell ⟨gb124, 1, none⟩ (.float .f64 (fOf .mul .f64 (rdOf (0 : Nat) l0 x46_3) ((rd_T40 y115 (ji19)).f1))))) := ⟨by repeat (first | (with_reducible first | exact HB.out | apply below_alloc | apply pw_below_drewN | apply below_drew1 | refine below_set ?_ GE123.out | refine below_set ?_ GE124.out) | exact HB.out)⟩
                                          (try clear HO_6)
                                          (try clear HO_7)
                                          (try clear BK123)
                                          (try clear BK124)
                                          (try clear HB)
                                          generalize ((w31.setCell ⟨gb124, 0, none⟩ (.float .f64 (fOf .mul .f64 (rdOf (0 : Nat) l0 x46_3) ((rd_T40 y115 (ji19)).f0)))).setCell ⟨gb124, 1, none⟩ (.float .f64 (fOf .mul .f64 (rdOf (0 : Nat) l0 x46_3) ((rd_T40 y115 (ji19)).f1)))) = w34 at n0_ n1_ n2_ n3_ n4_ ⊢
                                          have HO_6 := n0_
                                          have HO_7 := n1_
                                          have BK123 := n2_
                                          have BK124 := n3_
                                          have HB := n4_
                                          clear n0_ n1_ n2_ n3_ n4_
                                          have n0_ := Aside0.mk (Kd.R_drew HO_6.out)
                                          have n1_ := Aside0.mk (Kd.R_drew HO_7.out)
                                          have n2_ := Aside0.mk (blk_drew BK123.out)
                                          have n3_ := Aside0.mk (blk_drew BK124.out)
                                          have n4_ := Aside0.mk (below_drew1 HB.out)
                                          clear HO_6
                                          clear HO_7
                                          clear BK123
                                          clear BK124
                                          clear HB
                                          have HO_6 := n0_
                                          have HO_7 := n1_
                                          have BK123 := n2_
                                          have BK124 := n3_
                                          have HB := n4_
                                          clear n0_ n1_ n2_ n3_ n4_
                                          have p125 : 0 ≤ (x41_2 : Int) := of_decide_eq_true (by first | (with_reducible assumption) | assumption)
                                          have q125 : x41_2 < (x7_3.length : Int) := of_decide_eq_true (by first | (with_reducible assumption) | assumption)
                                          obtain ⟨ad125, e125, hx125_0, hx125_1⟩ := at_T40 (Kd.R_reads' HO_7.out).2.2 x41_2 p125 q125
                                          cases e125
                                          replace p125 := eq_true p125
                                          replace q125 := eq_true q125
                                          refine start_ (n := 10) (S := fun w' => w'.cell? ⟨gb124, 0, none⟩ = some (.float .f64 (fOf .mul .f64 (rdOf (0 : Nat) l0 x46_3) ((rd_T40 y115 (ji19)).f0))) ∧ w'.cell? ⟨gb124, 1, none⟩ = some (.float .f64 (fOf .mul .f64 (rdOf (0 : Nat) l0 x46_3) ((rd_T40 y115 (ji19)).f1))) ∧ w'.cell? (ad125.add ((x41_2).toNat * 2)) = some (.float .f64 ((rd_T40 x7_3 x41_2).f0)) ∧ w'.cell? ⟨(ad125.add ((x41_2).toNat * 2)).block, (ad125.add ((x41_2).toNat * 2)).off + 1, none⟩ = some (.float .f64 ((rd_T40 x7_3 x41_2).f1))) (ds := [9]) #[false, false, false, false, false, false, false, false, false, false] (by kernel_rfl) rfl rfl ⟨(blk_cell BK124.out 0).trans rfl, (blk_cell BK124.out 1).trans rfl, hx125_0, hx125_1⟩ (fun hHeld => ?_); refine with_tabW impl_Spectrum.tab21 impl_Spectrum.bits21 (fun HT_ HW_ => ?_)
                                          generalize w34.drew = w35 at HO_6 HO_7 BK123 BK124 HB hx125_0 hx125_1 hHeld ⊢
                                          refine pure_ (i := 0) (N := some 66) (v := ?_) (a' := ?_) #[true, false, false, false, false, false, false, false, false, false] rfl rfl (any_of HT_.out (by kernel_rfl)) (fun _ _ _ h => h) (Or.inl ⟨by rfl, ?_⟩) ?_ ?_
                                          rotate_left
                                          · intro w'
                                            go_simp
                                            with_reducible rfl
                                          rotate_left
                                          · simp only [Act.put, List.setIfInBounds_toArray, List.set_cons_zero, List.set_cons_succ, i64_w, i32_w]
                                            rfl
                                          refine pure_ (i := 1) (N := some 67) (v := ?_) (a' := ?_) #[true, true, false, false, false, false, false, false, false, false] rfl rfl (any_of HT_.out (by kernel_rfl)) (fun _ _ _ h => h) (Or.inl ⟨by rfl, ?_⟩) ?_ ?_
                                          rotate_left
                                          · intro w'
                                            go_simp
                                            with_reducible rfl
                                          rotate_left
                                          · simp only [Act.put, List.setIfInBounds_toArray, List.set_cons_zero, List.set_cons_succ, i64_w, i32_w]
                                            rfl
                                          refine pure_ (i := 2) (N := some 68) (v := ?_) (a' := ?_) #[true, true, true, false, false, false, false, false, false, false] rfl rfl (any_of HT_.out (by kernel_rfl)) (fun _ _ _ h => h) (Or.inl ⟨by rfl, ?_⟩) ?_ ?_
                                          rotate_left
                                          · intro w'
                                            go_simp
                                            with_reducible rfl
                                          rotate_left
                                          · simp only [Act.put, List.setIfInBounds_toArray, List.set_cons_zero, List.set_cons_succ, i64_w, i32_w]
                                            rfl
                                          refine pure_ (i := 3) (N := some 69) (v := ?_) (a' := ?_) #[true, true, true, true, false, false, false, false, false, false] rfl rfl (any_of HT_.out (by kernel_rfl)) (fun _ _ _ h => h) (Or.inl ⟨by rfl, ?_⟩) ?_ ?_
                                          rotate_left
                                          · intro w'
                                            go_simp
                                            with_reducible rfl
                                          rotate_left
                                          · simp only [Act.put, List.setIfInBounds_toArray, List.set_cons_zero, List.set_cons_succ, i64_w, i32_w]
                                            rfl
                                          refine pure_ (i := 4) (N := some 70) (v := ?_) (a' := ?_) #[true, true, true, true, true, false, false, false, false, false] rfl rfl (any_of HT_.out (by kernel_rfl)) (fun _ _ _ h => h) (Or.inl ⟨by rfl, ?_⟩) ?_ ?_
                                          rotate_left
                                          · intro w'
                                            go_simp
                                            with_reducible rfl
                                          rotate_left
                                          · simp only [Act.put, List.setIfInBounds_toArray, List.set_cons_zero, List.set_cons_succ, i64_w, i32_w]
                                            rfl
                                          refine take_ (i := 5) (N := some 71) (v := ?_) (a' := ?_) #[true, true, true, true, true, true, false, false, false, false] rfl rfl (take_ofW HT_.out HW_.out (by kernel_rfl)) (fun _ _ _ h => h) (Or.inl ⟨by rfl, ?_⟩) hHeld ?_ ?_
                                          rotate_left
                                          · rintro w' ⟨s0, s1, s2, s3⟩
                                            go_simp
                                            with_reducible rfl
                                          rotate_left
                                          · simp only [Act.put, List.setIfInBounds_toArray, List.set_cons_zero, List.set_cons_succ, i64_w, i32_w]
                                            rfl
                                          refine take_ (i := 6) (N := some 72) (v := ?_) (a' := ?_) #[true, true, true, true, true, true, true, false, false, false] rfl rfl (take_ofW HT_.out HW_.out (by kernel_rfl)) (fun _ _ _ h => h) (Or.inl ⟨by rfl, ?_⟩) hHeld ?_ ?_
                                          rotate_left
                                          · rintro w' ⟨s0, s1, s2, s3⟩
                                            go_simp
                                            with_reducible rfl
                                          rotate_left
                                          · simp only [Act.put, List.setIfInBounds_toArray, List.set_cons_zero, List.set_cons_succ, i64_w, i32_w]
                                            rfl
                                          refine one_ (i := 7) (N := some 73) #[true, true, true, true, true, true, true, true, false, false] rfl rfl (one_of HT_.out (by kernel_rfl)) (by decide) (fun K hK => ?_)
                                          refine goes_ Try.func40 (by kernel_rfl) rfl #[.agg #[.float .f64 ((rd_T40 x7_3 x41_2).f0), .float .f64 ((rd_T40 x7_3 x41_2).f1)], .agg #[.float .f64 (fOf .mul .f64 (rdOf (0 : Nat) l0 x46_3) ((rd_T40 y115 (ji19)).f0)), .float .f64 (fOf .mul .f64 (rdOf (0 : Nat) l0 x46_3) ((rd_T40 y115 (ji19)).f1))]] (by rfl) rfl rfl (by (try simp only [List.map_toArray, List.map_cons, List.map_nil]); first | done | (simp only [hji19]; rfl) | rfl | (simp only [List.length_drop, List.length_take]; rfl)) ?_
                                          with_reducible refine (impl_addTone.calls ((rd_T40 x7_3 x41_2).f0) ((rd_T40 x7_3 x41_2).f1) (fOf .mul .f64 (rdOf (0 : Nat) l0 x46_3) ((rd_T40 y115 (ji19)).f0)) (fOf .mul .f64 (rdOf (0 : Nat) l0 x46_3) ((rd_T40 y115 (ji19)).f1)) t126 t127 _ A26.out).mono ?_
                                          rintro e w36 ⟨rfl, hb⟩
                                          have HS2_ := (hb.cell (World.block_lt_of_cell? _ _ (hHeld.2.2.1))).trans (hHeld.2.2.1)
                                          have HS3_ := (hb.cell (World.block_lt_of_cell? _ _ (hHeld.2.2.2))).trans (hHeld.2.2.2)
                                          refine ⟨_, rfl, ?_⟩
                                          have n0_ := Aside0.mk (Kd.R_below (by (with_reducible repeat (first | apply Kd.R_alloc | apply Kd.R_drewN | apply Kd.R_drew)); exact HO_6.out) hb)
                                          have n1_ := Aside0.mk (Kd.R_below (by (with_reducible repeat (first | apply Kd.R_alloc | apply Kd.R_drewN | apply Kd.R_drew)); exact HO_7.out) hb)
                                          have n2_ := Aside0.mk (blk_below (g := gb123) (o := .cells #[.float .f64 ((rd_T40 y115 (ji19)).f0), .float .f64 ((rd_T40 y115 (ji19)).f1)] 40 (0, 0)) (by (with_reducible repeat (first | refine blk_drewN ?_ _ | refine blk_drew ?_ | refine blk_alloc ?_ _)); exact BK123.out) hb)
                                          have n3_ := Aside0.mk (blk_below (g := gb124) (o := .cells #[.float .f64 (fOf .mul .f64 (rdOf (0 : Nat) l0 x46_3) ((rd_T40 y115 (ji19)).f0)), .float .f64 (fOf .mul .f64 (rdOf (0 : Nat) l0 x46_3) ((rd_T40 y115 (ji19)).f1))] 40 (0, 0)) (by (with_reducible repeat (first | refine blk_drewN ?_ _ | refine blk_drew ?_ | refine blk_alloc ?_ _)); exact BK124.out) hb)
                                          have n4_ := Aside0.mk (below_step (by repeat (first | (with_reducible first | exact HB.out | apply below_alloc | apply pw_below_drewN | apply below_drew1 | refine below_set ?_ GE123.out | refine below_set ?_ GE124.out) | exact HB.out)) hb)
                                          clear HO_6
                                          clear HO_7
                                          clear BK123
                                          clear BK124
                                          clear HB
                                          have HO_6 := n0_
                                          have HO_7 := n1_
                                          have BK123 := n2_
                                          have BK124 := n3_
                                          have HB := n4_
                                          clear n0_ n1_ n2_ n3_ n4_
                                          (try clear hb)
                                          (try clear hb2)
                                          (try clear hk)
                                          (try clear hi)
                                          have p27 : 0 ≤ (x41_2 : Int) := of_decide_eq_true (by first | (with_reducible assumption) | assumption)
                                          have q27 : (x41_2 : Int) < ((x7_3.length : Int) : Int) := of_decide_eq_true (by first | (with_reducible assumption) | assumption)
                                          obtain ⟨go27, co27, eo27, gb27, gl27, cl27, HG27⟩ := Kd.R_form HO_7.out (by omega)
                                          (first | cases eo27 | (injection eo27 with ea_ en_ ec_; (first | subst ea_ | (injection ea_ with ea_; subst ea_)); subst ec_; clear en_))
                                          have GB27 := Aside0.mk gb27
                                          have GG27 := Aside0.mk HG27
                                          clear gb27 gl27 HG27
                                          (first | simp only [add_plain] at hx125_0 | skip)
                                          (first | simp only [add_plain] at hx125_1 | skip)
                                          obtain ⟨ce27, hcl27, hM27, hcc27, hfr27⟩ := Kd.R_elem HO_7.out z40 (x41_2 : Int) p27 q27
                                          obtain rfl := k40_openM hM27
                                          have hx27_0 : World.cell? _ ⟨go27, (x41_2 : Int).toNat * 2, none⟩ = some (.float .f64 ((rd_T40 x7_3 x41_2).f0)) := hcc27 0 _ rfl
                                          have hx27_1 : World.cell? _ ⟨go27, (x41_2 : Int).toNat * 2 + 1, none⟩ = some (.float .f64 ((rd_T40 x7_3 x41_2).f1)) := hcc27 1 _ rfl
                                          have hf27_0 : World.frozen? _ ⟨go27, (x41_2 : Int).toNat * 2, none⟩ = false := hfr27 0
                                          have hf27_1 : World.frozen? _ ⟨go27, (x41_2 : Int).toNat * 2 + 1, none⟩ = false := hfr27 1
                                          clear hcl27 hcc27 hfr27 hM27
                                          replace p27 := eq_true p27
                                          replace q27 := eq_true q27
                                          obtain ⟨ce37, hcl37, hM37, hcc37, hfr37⟩ := Kd.R_elem HO_7.out z40 (x41_2 : Int) (of_decide_eq_true (by first | (with_reducible assumption) | assumption)) (by have h_ : (x41_2 : Int) < ((x7_3.length : Int) : Int) := of_decide_eq_true (by first | (with_reducible assumption) | assumption); first | exact h_ | (have e_ := (Kd.R_reads' HO_7.out).1; omega) | simpa using h_)
                                          obtain rfl := k40_openM hM37
                                          have HP37 := (Kd.R_seg HO_7.out (x41_2 : Int) (of_decide_eq_true (by first | (with_reducible assumption) | assumption)) (by have h_ : (x41_2 : Int) < ((x7_3.length : Int) : Int) := of_decide_eq_true (by first | (with_reducible assumption) | assumption); first | exact h_ | (have e_ := (Kd.R_reads' HO_7.out).1; omega) | simpa using h_) (seg := [.float .f64 t126, .float .f64 t127]) (j := 0) hcl37 hcc37 (show 2 ≤ 2 from by decide) (x' := (⟨t126, t127⟩ : S40)) (k40_mkM _ _ _ (⟨t126, t127⟩ : S40) ) (fun _ hk => hk)).1
                                          rw [← Ny128.out] at HP37
                                          have HQ37 := Aside0.mk HP37
                                          clear hcl37 hcc37 hfr37 hM37 HP37
                                          refine hK.out _ _ ⟨(blk_cell BK124.out 0).trans rfl, (blk_cell BK124.out 1).trans rfl, HS2_, HS3_⟩ (fun hHeld => ?_)
                                          clear hK K
                                          refine norm_ (a' := ?_) ?_ ?_
                                          rotate_left
                                          · show Act.put _ (some 73) _ = _
                                            simp only [Act.put, List.setIfInBounds_toArray, List.set_cons_zero, List.set_cons_succ, i64_w, i32_w]
                                            rfl
                                          refine pure_ (i := 8) (N := some 74) (v := ?_) (a' := ?_) #[true, true, true, true, true, true, true, true, true, false] rfl rfl (any_of HT_.out (by kernel_rfl)) (fun _ _ _ h => h) (Or.inl ⟨by rfl, ?_⟩) ?_ ?_
                                          rotate_left
                                          · intro w'
                                            go_simp
                                            with_reducible rfl
                                          rotate_left
                                          · simp only [Act.put, List.setIfInBounds_toArray, List.set_cons_zero, List.set_cons_succ, i64_w, i32_w]
                                            rfl
                                          refine last_ (i := 9) (N := none) #[true, true, true, true, true, true, true, true, true, true] rfl rfl (one_of HT_.out (by kernel_rfl)) (by decide) (fun K hK => ?_)
                                          refine skip_ (w1 := ?_) (by rfl) rfl ?_ ?_
                                          rotate_left
                                          · go_simp
                                            rfl
                                          refine hK.out _ _ ?_
                                          clear hK K
                                          refine done_ (done_of HT_.out (by kernel_rfl)) ?_
                                          try go_wp2
                                          (try simp only [← hl7_3])
                                          go_roundg k3
                                          case measure => have := HK1.out; have := HK2.out; have := HK3.out; omega
                                          case rel => exact ⟨(y128), (wrap64 (x46_3 + 1)), (by first | rfl | (simp; done) | (simp [*]; done)), H', ⟨by have := HK1.out; have := HK2.out; have := HK3.out; omega⟩, ⟨by (try simp only [hl7_2]); (try simp only [hl7_3]); (with_reducible repeat (first | apply Kd.R_alloc | apply Kd.R_drewN | apply Kd.R_drew)); exact Kd.R_mono (Kd.R_far (p := ⟨go27, (x41_2 : Int).toNat * 2 + 1, none⟩) (Kd.R_far (p := ⟨go27, (x41_2 : Int).toNat * 2, none⟩) (Kd.R_mono HO_6.out (fun k_ hk => (⟨hk, fun e_ => hk.1 (by rw [e_]; rfl)⟩ : _ ∧ k_ ≠ go27))) (fun _ hk => hk.2) (.float .f64 t126)) (fun _ hk => hk.2) (.float .f64 t127)) (fun _ hk => hk.1.1)⟩, ⟨by (try simp only [hl7_2]); (try simp only [hl7_3]); (with_reducible repeat (first | apply Kd.R_alloc | apply Kd.R_drewN | apply Kd.R_drew)); exact Kd.R_mono HQ37.out (fun _ hk => hk.1)⟩, ⟨by repeat (first | (with_reducible first | exact HB.out | apply below_alloc | apply pw_below_drewN | apply below_drew1 | refine below_set ?_ GB27.out | refine below_set ?_ GB27.out | refine below_set ?_ GE123.out | refine below_set ?_ GE124.out) | exact HB.out)⟩⟩
                                        · rw [if_neg c25] at H
                                          exact absurd H (by simp)
                                      · rw [if_neg c24] at H
                                        exact absurd H (by simp)
                                    · rw [if_neg c23] at H
                                      exact absurd H (by simp)
                                  · rw [if_neg c22] at H
                                    exact absurd H (by simp)
                                · rw [if_neg c21] at H
                                  exact absurd H (by simp)
                              · rw [if_neg c20] at H
                                exact absurd H (by simp)
                            · rw [if_neg c18] at H
                              exact absurd H (by simp)
                          · rw [if_neg c17] at H
                            exact absurd H (by simp)
                        · rw [if_neg c16] at H
                          have c16b0 : decide (x46_3 < (l0.length : Int)) = false := decide_eq_false c16
                          (try (have c16b0l := c16b0; rw [hl7_2] at c16b0l))
                          (try (have c16b0l := c16b0; rw [hl7_3] at c16b0l))
                          clear c16
                          have H' := Aside0.mk H
                          clear H
                          go_wp2
                          (try simp only [← hl7_2, ← hl7_3])
                          go_roundg k3
                          case measure => have := HK1.out; have := HK2.out; have := HK3.out; omega
                          case rel => exact ⟨(x7_3), (wrap64 (x41_2 + 1)), (by first | rfl | (simp; done) | (simp [*]; done)), H', ⟨by have := HK1.out; have := HK2.out; have := HK3.out; omega⟩, ⟨by (try simp only [hl7_2]); (try simp only [hl7_3]); (with_reducible repeat (first | apply Kd.R_alloc | apply Kd.R_drewN | apply Kd.R_drew)); exact HO_6.out⟩, ⟨by (try simp only [hl7_2]); (try simp only [hl7_3]); (with_reducible repeat (first | apply Kd.R_alloc | apply Kd.R_drewN | apply Kd.R_drew)); exact HO_7.out⟩, ⟨by repeat (first | (with_reducible first | exact HB.out | apply below_alloc | apply pw_below_drewN | apply below_drew1) | exact HB.out)⟩⟩
                  · rw [if_neg c15] at H
                    have c15b0 : decide (x41_2 < (y118.length : Int)) = false := decide_eq_false c15
                    (try (have c15b0l := c15b0; rw [hl7_2] at c15b0l))
                    clear c15
                    simp only [Option.some.injEq, Prod.mk.injEq] at H
                    obtain ⟨rfl, rfl⟩ := H
                    go_wp2
                    go_ret2
                    exact ⟨_, by first | rfl | (simp [errW_none, errW_some] <;> rfl) | (simp [*, errW_none, errW_some] <;> rfl), by (with_reducible repeat (first | apply Kd.R_alloc | apply Kd.R_drewN | apply Kd.R_drew)); exact Kd.R_mono HO_7.out (fun _ hk => trivial), by repeat (first | (with_reducible first | exact HB.out | apply below_alloc | apply pw_below_drewN | apply below_drew1) | exact HB.out)⟩
            · rw [if_neg c9] at H
              exact absurd H (by simp)
    · rw [if_neg c3] at H
      have c3b0 : ((l0.length : Int) == 8) = false := beq_eq_false_iff_ne.mpr c3
      have c3b1 : ((l0.length : Int) != 8) = true := bne_iff_ne.mpr c3
      simp only [Option.some.injEq, Prod.mk.injEq] at H
      obtain ⟨rfl, rfl⟩ := H
      go_enter Try.func18, Try.ntmps18
      go_wp2
      go_ret2
      exact ⟨_, by first | rfl | (simp [errW_none, errW_some] <;> rfl) | (simp [*, errW_none, errW_some] <;> rfl), by first | exact Kd.R_nil _ _ _ _ _ | exact Kd.N_nil _ _ _ _ _ | exact Kd.V_nil _ _ _ _ _ | exact Kd.Q_nil _ _ _ _ _ | exact Kd.S_nil _ _ _ _ _, by repeat (first | (with_reducible first | exact HB.out | apply below_alloc | apply pw_below_drewN | apply below_drew1) | exact HB.out)⟩

/-! ### spec_l18Within: function 36 -/
def spec_l18Within.f (a0 : Nat) (a1 : Nat) (a2 : Nat) : Option (Bool) := if fGe .f64 a0 a1 = true then (some (fLe .f64 a0 a2)) else (some false)
set_option maxHeartbeats 8000000 in
set_option maxRecDepth 100000 in
theorem spec_l18Within.calls (a0 : Nat) (a1 : Nat) (a2 : Nat) (r : Bool) (w : World) (h : spec_l18Within.f a0 a1 a2 = some r) :
    Calls Try.prog 36 #[.float .f64 a0, .float .f64 a1, .float .f64 a2] w fun e w' => e = .returned (.bool r) ∧ Drawn0 w w' := by
  have H : (if fGe .f64 a0 a1 = true then (some (fLe .f64 a0 a2)) else (some false)) = some r := h
  clear h
  by_cases c4 : fGe .f64 a0 a1 = true
  · rw [if_pos c4] at H
    have c4b0 : fGe .f64 a0 a1 = true := c4
    clear c4
    obtain rfl := Option.some.inj H
    go_enter Try.func36, Try.ntmps36
    go_wp2
    go_ret
    exact ⟨by first | rfl | (simp; done) | (simp [*]; done), by repeat (first | exact Drawn0.refl _ | apply Drawn0.step)⟩
  · rw [if_neg c4] at H
    have c4b0 : fGe .f64 a0 a1 = false := by simpa using c4
    clear c4
    obtain rfl := Option.some.inj H
    go_enter Try.func36, Try.ntmps36
    go_wp2
    go_ret
    exact ⟨by first | rfl | (simp; done) | (simp [*]; done), by repeat (first | exact Drawn0.refl _ | apply Drawn0.step)⟩

end Go.Proofs.Ytlmlhkmkabklmaa.PFnExactSpectrum
