/- FnExactFrameOK over numbers and lists alone: the program's FrameOK and the reference's answer alike at every frame, which reads as before. -/
import Derived.Test.YthofhmhcackepaaSFnExactFrameOK
import Derived.Test.YthofhmhcackepaaLib
namespace Go.Proofs.Ythofhmhcackepaa.Pure
open Go.RowKit Go.Proofs.Ythofhmhcackepaa.PFnExactFrameOK Go.Proofs.YthofhmhcackepaaW.PrintWords Go.Proofs.YthofhmhcackepaaW.PrintLast Go.Proofs.Ythofhmhcackepaa.Lib
set_option linter.unusedVariables false
set_option linter.unusedSimpArgs false

def springConv (x : S119) : S80 := ⟨x.f0, x.f1, x.f2⟩
theorem copy_springs (l : List S119) (h : l.length ≤ 1048576) : Ev (fun k => laws_toSpringS.f k l) (l.map springConv) := by
  have := copy_loop laws_toSpringS.l0 springConv z119 (fun k x0 x3 i h1 h2 => by
    simp only [laws_toSpringS.l0, laws_toSpring.f, Option.bind_some]
    rw [if_pos (by omega), if_pos (by omega), if_pos (by omega)]
    rfl) (fun k x0 x3 => by simp only [laws_toSpringS.l0]; rw [if_neg (by omega)]) l (by omega) (List.replicate l.length z80) (by simp)
  unfold laws_toSpringS.f
  simp only [show (0 : Int) ≤ (l.length : Int) from by omega, if_true, Int.toNat_natCast, show l.length ≤ 11728124029610 from by omega]
  exact this
theorem copy_ints (l : List Int) (h : l.length ≤ 1048576) : Ev (fun k => laws_toIntS.f k l) l := by
  have := copy_loop laws_toIntS.l0 id (0 : Int) (fun k x0 x3 i h1 h2 => by
    simp only [laws_toIntS.l0]
    rw [if_pos (by omega), if_pos (by omega), if_pos (by omega)]
    rfl) (fun k x0 x3 => by simp only [laws_toIntS.l0]; rw [if_neg (by omega)]) l (by omega) (List.replicate l.length 0) (by simp)
  unfold laws_toIntS.f
  simp only [show (0 : Int) ≤ (l.length : Int) from by omega, if_true, Int.toNat_natCast, show l.length ≤ 35184372088832 from by omega]
  rw [List.map_id] at this
  exact this
theorem same_springs (l : List S80) (h : l.length ≤ 1048576) : Ev (fun k => laws_eqSpringS.f k l l) true := by
  unfold laws_eqSpringS.f
  simp only [if_true]
  exact same_loop laws_eqSpringS.l0 l (fun k i hi => by
    simp only [laws_eqSpringS.l0, laws_eqSpring.f, if_true, Option.bind_some]
    rw [if_pos (by omega), if_pos (by omega), if_pos (by omega)]) (fun k => by simp only [laws_eqSpringS.l0]; rw [if_neg (by omega)]) (by omega)
theorem same_ints (l : List Int) (h : l.length ≤ 1048576) : Ev (fun k => laws_eqIntS.f k l l) true := by
  unfold laws_eqIntS.f
  simp only [if_true]
  exact same_loop laws_eqIntS.l0 l (fun k i hi => by
    simp only [laws_eqIntS.l0, if_true]
    rw [if_pos (by omega), if_pos (by omega), if_pos (by omega)]) (fun k => by simp only [laws_eqIntS.l0]; rw [if_neg (by omega)]) (by omega)
theorem copy_frame (n : Int) (l : List S119) (m : List Int) (h : l.length ≤ 1048576) (h' : m.length ≤ 1048576) : Ev (fun k => laws_toFrame.f k n l m) (n, l.map springConv, m) := by
  unfold laws_toFrame.f
  refine Ev.bind (copy_springs l h) ?_
  exact Ev.bind (copy_ints m h') (Ev.now _)
theorem same_frame (n : Int) (l : List S80) (m : List Int) (h : l.length ≤ 1048576) (h' : m.length ≤ 1048576) : Ev (fun k => laws_eqFrame.f k n l m n l m) true := by
  unfold laws_eqFrame.f
  simp only [if_true]
  refine Ev.bind (same_springs l h) ?_
  simp only [if_true]
  refine Ev.bind (same_ints m h') ?_
  exact ev_const (by simp)

def springOK (n f0 f1 f2 : Int) : Bool := decide (0 ≤ f0 ∧ f0 < n ∧ -1 ≤ f1 ∧ f1 < n ∧ f0 ≠ f1 ∧ 1 ≤ f2 ∧ f2 ≤ 1000)
def springsOK (n : Int) (L : List S80) : Prop := ∀ i, i < L.length → springOK n (rd_T80 L (i : Int)).f0 (rd_T80 L (i : Int)).f1 (rd_T80 L (i : Int)).f2 = true
instance (n : Int) (L : List S80) : Decidable (springsOK n L) := by unfold springsOK; exact inferInstance
def near (M : List Int) : Prop := ∀ i, i < M.length → decide (-1000 ≤ rd M (i : Int) ∧ rd M (i : Int) ≤ 1000) = true
instance (L : List Int) : Decidable (near L) := by unfold near; exact inferInstance
def frameOK (n : Int) (L : List S80) (M : List Int) : Bool := decide (1 ≤ n ∧ n ≤ 6 ∧ L.length ≤ 20 ∧ (M.length : Int) = n ∧ near M ∧ springsOK n L)

theorem spec_near (M : List Int) (h : M.length ≤ 1048576) : Ev (fun k => spec_l16Within.f k M (-1000) 1000) (decide (near M)) := by
  have key := all_loop (r := true) (bad := false) (fun i k => spec_l16Within.l0 k M (-1000) 1000 (i : Int)) M.length (fun i => decide (-1000 ≤ rd M (i : Int) ∧ rd M (i : Int) ≤ 1000))
    (fun i hi hp => ⟨0, fun k _ => by
      have hp := of_decide_eq_true hp
      show spec_l16Within.l0 (k + 1) M (-1000) 1000 (i : Int) = spec_l16Within.l0 k M (-1000) 1000 ((i + 1 : Nat) : Int)
      simp only [spec_l16Within.l0]
      rw [if_pos (by omega), if_pos (by omega), if_neg (by omega), if_neg (by omega), wr_succ i (by omega)]⟩)
    (fun i hi hp => ev_some fun k => by
      have hp := of_decide_eq_false hp
      show spec_l16Within.l0 (k + 1) M (-1000) 1000 (i : Int) = _
      simp only [spec_l16Within.l0]
      rw [if_pos (by omega), if_pos (by omega)]
      by_cases g : rd M (i : Int) < -1000
      · rw [if_pos g]
      · rw [if_neg g, if_pos (by omega)])
    (fun _ => ev_some fun k => by
      show spec_l16Within.l0 (k + 1) M (-1000) 1000 (M.length : Int) = _
      simp only [spec_l16Within.l0]; rw [if_neg (by omega)])
  have e : decide (near M) = if near M then true else false := by by_cases hc : near M <;> simp [hc]
  rw [e]; exact key
theorem impl_near (M : List Int) (h : M.length ≤ 1048576) : Ev (fun k => impl_FrameOK.l1 k M (M.length : Int) 0) (decide (near M)) := by
  have key := all_loop (r := true) (bad := false) (fun i k => impl_FrameOK.l1 k M (M.length : Int) (i : Int)) M.length (fun i => decide (-1000 ≤ rd M (i : Int) ∧ rd M (i : Int) ≤ 1000))
    (fun i hi hp => ⟨0, fun k _ => by
      have hp := of_decide_eq_true hp
      show impl_FrameOK.l1 (k + 1) M (M.length : Int) (i : Int) = impl_FrameOK.l1 k M (M.length : Int) ((i + 1 : Nat) : Int)
      simp only [impl_FrameOK.l1]
      rw [if_pos (by omega), if_pos (by omega), if_pos (by omega), if_neg (by omega), if_neg (by omega), wr_succ i (by omega)]⟩)
    (fun i hi hp => ev_some fun k => by
      have hp := of_decide_eq_false hp
      show impl_FrameOK.l1 (k + 1) M (M.length : Int) (i : Int) = _
      simp only [impl_FrameOK.l1]
      rw [if_pos (by omega), if_pos (by omega), if_pos (by omega)]
      by_cases g : rd M (i : Int) < -1000
      · rw [if_pos g]
      · rw [if_neg g, if_pos (by omega)])
    (fun _ => ev_some fun k => by
      show impl_FrameOK.l1 (k + 1) M (M.length : Int) (M.length : Int) = _
      simp only [impl_FrameOK.l1]; rw [if_neg (by omega)])
  have e : decide (near M) = if near M then true else false := by by_cases hc : near M <;> simp [hc]
  rw [e]; exact key
theorem spec_springs (n : Int) (L : List S80) (M : List Int) (h : L.length ≤ 1048576) : Ev (fun k => spec_FrameOK.l0 k 0 n L M) (decide (springsOK n L)) := by
  have key := all_loop (r := true) (bad := false) (fun i k => spec_FrameOK.l0 k (i : Int) n L M) L.length (fun i => springOK n (rd_T80 L (i : Int)).f0 (rd_T80 L (i : Int)).f1 (rd_T80 L (i : Int)).f2)
    (fun i hi hp => ⟨0, fun k _ => by
      have hp := of_decide_eq_true hp
      show spec_FrameOK.l0 (k + 1) (i : Int) n L M = spec_FrameOK.l0 k ((i + 1 : Nat) : Int) n L M
      simp only [spec_FrameOK.l0]
      rw [if_pos (by omega), if_pos (by omega), if_neg (by omega), if_neg (by omega), if_neg (by omega), if_neg (by omega), if_neg (by omega), if_neg (by omega), if_neg (by omega), wr_succ i (by omega)]⟩)
    (fun i hi hp => ev_some fun k => by
      have hp := of_decide_eq_false hp
      show spec_FrameOK.l0 (k + 1) (i : Int) n L M = _
      simp only [spec_FrameOK.l0]
      rw [if_pos (by omega), if_pos (by omega)]
      iterate 7 (refine ite_eq_left_iff.2 fun _ => ?_)
      exfalso; omega)
    (fun _ => ev_some fun k => by
      show spec_FrameOK.l0 (k + 1) (L.length : Int) n L M = _
      simp only [spec_FrameOK.l0]; rw [if_neg (by omega)])
  have e : decide (springsOK n L) = if springsOK n L then true else false := by by_cases hc : springsOK n L <;> simp [hc]
  rw [e]; exact key
theorem impl_springs (n : Int) (L : List S80) (M : List Int) (h : L.length ≤ 1048576) (h' : M.length ≤ 1048576) : Ev (fun k => impl_FrameOK.l0 k L (L.length : Int) 0 n L M) (decide (near M ∧ springsOK n L)) := by
  have key := all_loop (r := decide (near M)) (bad := false) (fun i k => impl_FrameOK.l0 k L (L.length : Int) (i : Int) n L M) L.length (fun i => springOK n (rd_T80 L (i : Int)).f0 (rd_T80 L (i : Int)).f1 (rd_T80 L (i : Int)).f2)
    (fun i hi hp => ⟨0, fun k _ => by
      have hp := of_decide_eq_true hp
      show impl_FrameOK.l0 (k + 1) L (L.length : Int) (i : Int) n L M = impl_FrameOK.l0 k L (L.length : Int) ((i + 1 : Nat) : Int) n L M
      simp only [impl_FrameOK.l0]
      rw [if_pos (by omega), if_pos (by omega), if_pos (by omega), if_neg (by omega), if_neg (by omega), if_neg (by omega), if_neg (by omega), if_neg (by omega), if_neg (by omega), if_neg (by omega), wr_succ i (by omega)]⟩)
    (fun i hi hp => ev_some fun k => by
      have hp := of_decide_eq_false hp
      show impl_FrameOK.l0 (k + 1) L (L.length : Int) (i : Int) n L M = _
      simp only [impl_FrameOK.l0]
      rw [if_pos (by omega), if_pos (by omega), if_pos (by omega)]
      iterate 7 (refine ite_eq_left_iff.2 fun _ => ?_)
      exfalso; omega)
    (fun _ => ev_one (f := fun k => impl_FrameOK.l1 k M (M.length : Int) 0) (fun k => by
      show impl_FrameOK.l0 (k + 1) L (L.length : Int) (L.length : Int) n L M = _
      simp only [impl_FrameOK.l0]; rw [if_neg (by omega)]) (impl_near M h'))
  have e : decide (near M ∧ springsOK n L) = if springsOK n L then decide (near M) else false := by by_cases hc : springsOK n L <;> simp [hc]
  rw [e]; exact key
theorem spec_frame (n : Int) (L : List S80) (M : List Int) (h : L.length ≤ 1048576) (h' : M.length ≤ 1048576) : Ev (fun k => spec_FrameOK.f k n L M) (frameOK n L M) := by
  have stop : frameOK n L M = false → Ev (fun k => spec_FrameOK.j0 k true n L M) (frameOK n L M) := fun h => by
    rw [h]; exact ev_some fun k => by simp only [spec_FrameOK.j0, if_true]
  unfold spec_FrameOK.f
  by_cases h1 : n < 1
  · simp only [if_pos h1]; exact stop (by simp only [frameOK, decide_eq_false_iff_not]; omega)
  simp only [if_neg h1]
  by_cases h2 : n > 6
  · simp only [if_pos h2]; exact stop (by simp only [frameOK, decide_eq_false_iff_not]; omega)
  simp only [if_neg h2]
  by_cases h3 : (L.length : Int) > 20
  · simp only [if_pos h3]; exact stop (by simp only [frameOK, decide_eq_false_iff_not]; omega)
  simp only [if_neg h3]
  by_cases h4 : (M.length : Int) = n
  · simp only [if_pos h4]
    refine Ev.bind (spec_near M h') ?_
    by_cases h5 : near M
    · rw [decide_eq_true h5]
      refine ev_one (f := fun k => spec_FrameOK.l0 k 0 n L M) (fun k => by simp only [spec_FrameOK.j0, Bool.not_true, Bool.false_eq_true, if_false]) ?_
      have := spec_springs n L M h
      have e : frameOK n L M = decide (springsOK n L) := by
        unfold frameOK; congr 1; rw [eq_iff_iff]
        exact ⟨fun h => h.2.2.2.2.2, fun h => ⟨by omega, by omega, by omega, h4, h5, h⟩⟩
      rw [e]; exact this
    · rw [decide_eq_false h5]; exact stop (by simp only [frameOK, decide_eq_false_iff_not]; exact fun h => h5 h.2.2.2.2.1)
  · simp only [if_neg h4]; exact stop (by simp only [frameOK, decide_eq_false_iff_not]; omega)
theorem impl_frame (n : Int) (L : List S80) (M : List Int) (h : L.length ≤ 1048576) (h' : M.length ≤ 1048576) : Ev (fun k => impl_FrameOK.f k n L M) (frameOK n L M) := by
  have stop : frameOK n L M = false → Ev (fun k => impl_FrameOK.j0 k true n L M) (frameOK n L M) := fun h => by
    rw [h]; exact ev_some fun k => by simp only [impl_FrameOK.j0, if_true]
  unfold impl_FrameOK.f
  by_cases h1 : n < 1
  · simp only [if_pos h1]; exact stop (by simp only [frameOK, decide_eq_false_iff_not]; omega)
  simp only [if_neg h1]
  by_cases h2 : n > 6
  · simp only [if_pos h2]; exact stop (by simp only [frameOK, decide_eq_false_iff_not]; omega)
  simp only [if_neg h2]
  by_cases h3 : (L.length : Int) > 20
  · simp only [if_pos h3]; exact stop (by simp only [frameOK, decide_eq_false_iff_not]; omega)
  simp only [if_neg h3]
  by_cases h4 : (M.length : Int) = n
  · have hb : ((M.length : Int) != n) = false := by simp [h4]
    rw [hb]
    refine ev_one (f := fun k => impl_FrameOK.l0 k L (L.length : Int) 0 n L M) (fun k => by simp only [impl_FrameOK.j0, Bool.false_eq_true, if_false]) ?_
    have := impl_springs n L M h h'
    have e : frameOK n L M = decide (near M ∧ springsOK n L) := by
      unfold frameOK; congr 1; rw [eq_iff_iff]
      exact ⟨fun h => h.2.2.2.2, fun h => ⟨by omega, by omega, by omega, h4, h⟩⟩
    rw [e]; exact this
  · have hb : ((M.length : Int) != n) = true := by simp [h4]
    rw [hb]; exact stop (by simp only [frameOK, decide_eq_false_iff_not]; omega)
theorem sz_springs (l : List S119) (a : Int) (hl : l.length ≤ maxLen) (ha : 0 ≤ a ∧ a ≤ 1048576) : laws_szSpringS.f l a = some (if a - (l.length : Int) < 0 then -1 else a - (l.length : Int)) := by
  unfold maxLen at hl
  unfold laws_szSpringS.f
  rw [wr (by omega) (by omega)]
  split <;> rfl
theorem sz_ints (l : List Int) (a : Int) (hl : l.length ≤ maxLen) (ha : 0 ≤ a ∧ a ≤ 1048576) : laws_szIntS.f l a = some (if a - (l.length : Int) < 0 then -1 else a - (l.length : Int)) := by
  unfold maxLen at hl
  unfold laws_szIntS.f
  rw [wr (by omega) (by omega)]
  split <;> rfl
theorem FnExactFrameOK : laws_FnExactFrameOK.Plain := by
  intro n l m _ hl hm
  refine Ev.rounds ?_
  unfold laws_FnExactFrameOK.f laws_szFrame.f
  rw [sz_springs l _ hl.1 (by omega)]
  simp only [Option.bind_some]
  by_cases hs : 1048576 - (l.length : Int) < 0
  · simp only [if_pos hs]; exact ev_const (by simp)
  simp only [if_neg hs]
  rw [sz_ints m _ hm.1 (by omega)]
  simp only [Option.bind_some]
  by_cases hs' : 1048576 - (l.length : Int) - (m.length : Int) < 0
  · simp only [if_pos hs']; exact ev_const (by simp)
  simp only [if_neg hs']
  have hc := copy_frame n l m (by omega) (by omega)
  simp only [Option.bind_some, if_neg hs']
  refine Ev.bind hc ?_
  refine Ev.bind (spec_frame n (l.map springConv) m (by simp; omega) (by omega)) ?_
  refine Ev.bind hc ?_
  refine Ev.bind (impl_frame n (l.map springConv) m (by simp; omega) (by omega)) ?_
  simp only [bne_self_eq_false, Bool.false_eq_true, if_false]
  refine Ev.bind hc ?_
  refine Ev.bind (same_frame n (l.map springConv) m (by simp; omega) (by omega)) ?_
  exact ev_const (by simp)
end Go.Proofs.Ythofhmhcackepaa.Pure
