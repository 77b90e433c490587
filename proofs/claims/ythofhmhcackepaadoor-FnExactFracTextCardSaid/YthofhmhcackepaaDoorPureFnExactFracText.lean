/- FnExactFracText over numbers and bytes alone: the program's FracText and the reference's answer alike at every fraction. -/
import Derived.Test.YthofhmhcackepaaDoorSFnExactFracText
import Derived.Test.YthofhmhcackepaaDoorLib
namespace Go.Proofs.YthofhmhcackepaaDoor.Pure
open Go.RowKit Go.Proofs.YthofhmhcackepaaDoor.PFnExactFracText Go.Proofs.YthofhmhcackepaaDoorW.PrintWords Go.Proofs.YthofhmhcackepaaDoorW.PrintLast Go.Proofs.YthofhmhcackepaaDoor.Lib
set_option linter.unusedVariables false
set_option linter.unusedSimpArgs false

def okF (n d : Int) : Bool := decide (1 ≤ d ∧ d ≤ 1000000000 ∧ -1000000000 ≤ n ∧ n ≤ 1000000000 ∧ Nat.gcd n.natAbs d.natAbs = 1)
theorem okF_iff (n d : Int) : okF n d = true ↔ 1 ≤ d ∧ d ≤ 1000000000 ∧ -1000000000 ≤ n ∧ n ≤ 1000000000 ∧ Nat.gcd n.natAbs d.natAbs = 1 := by simp [okF]
theorem gcd_ev : ∀ (m : Nat) (a b : Int), b.natAbs ≤ m → ∃ g, Ev (fun k => spec_l01Gcd.l0 k a b) g ∧ g.natAbs = Nat.gcd a.natAbs b.natAbs := by
  intro m
  induction m with
  | zero =>
    intro a b hb
    obtain rfl : b = 0 := by omega
    exact ⟨a, ev_some fun k => by simp only [spec_l01Gcd.l0, if_true], by simp⟩
  | succ m ih =>
    intro a b hb
    by_cases h : b = 0
    · subst h
      exact ⟨a, ev_some fun k => by simp only [spec_l01Gcd.l0, if_true], by simp⟩
    · have hlt : (Int.tmod a b).natAbs < b.natAbs := by
        rw [Int.natAbs_tmod]; exact Nat.mod_lt _ (by omega)
      obtain ⟨g, hg, he⟩ := ih b (Int.tmod a b) (by omega)
      refine ⟨g, ev_one (fun k => by simp only [spec_l01Gcd.l0]; rw [if_neg h]) hg, ?_⟩
      rw [he, Int.natAbs_tmod, Nat.gcd_comm b.natAbs, ← Nat.gcd_rec, Nat.gcd_comm]
theorem impl_gcd_eq : ∀ (k : Nat) (a b : Int), impl_gcd.l0 k a b = (spec_l01Gcd.l0 k a b).bind fun g => if g < 0 then some (wrap64 (-g)) else some g := by
  intro k
  induction k with
  | zero => intro a b; rfl
  | succ k ih =>
    intro a b
    simp only [impl_gcd.l0, spec_l01Gcd.l0]
    by_cases h : b = 0
    · simp only [if_pos h, Option.bind_some]
    · simp only [if_neg h]; exact ih _ _
theorem abs_of (g : Int) (h : g.natAbs ≤ 1000000000) : (if g < 0 then some (wrap64 (-g)) else some g) = some (g.natAbs : Int) := by
  by_cases h0 : g < 0
  · rw [if_pos h0, wr (by omega) (by omega)]; congr 1; omega
  · rw [if_neg h0]; congr 1; omega
theorem gcd_le (n d : Int) (h1 : 1 ≤ d) (h2 : d ≤ 1000000000) : Nat.gcd n.natAbs d.natAbs ≤ 1000000000 :=
  Nat.le_trans (Nat.gcd_le_right _ (by omega)) (by omega)
theorem spec_ok (n d : Int) : Ev (fun k => spec_FracOK.f k n d) (okF n d) := by
  have bad : ¬ (1 ≤ d ∧ d ≤ 1000000000 ∧ -1000000000 ≤ n ∧ n ≤ 1000000000) → okF n d = false := fun h => by
    simp only [okF, decide_eq_false_iff_not]; intro h'; exact h ⟨h'.1, h'.2.1, h'.2.2.1, h'.2.2.2.1⟩
  have stop : okF n d = false → Ev (fun k => spec_FracOK.j0 k true n d) (okF n d) := fun h => by
    rw [h]; exact ev_some fun k => by simp only [spec_FracOK.j0, if_true]
  unfold spec_FracOK.f
  by_cases h1 : d < 1
  · simp only [if_pos h1]; exact stop (bad (by omega))
  · simp only [if_neg h1]
    by_cases h2 : d > 1000000000
    · simp only [if_pos h2]; exact stop (bad (by omega))
    · simp only [if_neg h2]
      by_cases h3 : n < -1000000000
      · simp only [if_pos h3]; exact stop (bad (by omega))
      · simp only [if_neg h3]
        by_cases h4 : n > 1000000000
        · simp only [h4, decide_true]; exact stop (bad (by omega))
        · simp only [h4, decide_false]
          obtain ⟨g, hg, he⟩ := gcd_ev _ n d (Nat.le_refl _)
          have hgl := gcd_le n d (by omega) (by omega)
          refine ev_one (f := fun k => (spec_l01Gcd.f k n d).bind fun t102 => (spec_l01Abs.f t102).bind fun t103 => some (t103 == 1)) (fun k => by simp only [spec_FracOK.j0]; rfl) ?_
          refine Ev.bind (g := fun k => spec_l01Gcd.f k n d) (a := g) hg ?_
          unfold spec_l01Abs.f
          rw [abs_of g (by omega)]
          refine ev_const ?_
          simp only [Option.bind_some, okF, he]
          congr 1
          rw [Bool.eq_iff_iff]
          simp only [beq_iff_eq, decide_eq_true_eq]
          constructor
          · intro h; exact ⟨by omega, by omega, by omega, by omega, by omega⟩
          · intro h; have := h.2.2.2.2; omega
theorem impl_ok (n d : Int) : Ev (fun k => impl_FracOK.f k n d) (okF n d) := by
  have bad : ¬ (1 ≤ d ∧ d ≤ 1000000000 ∧ -1000000000 ≤ n ∧ n ≤ 1000000000) → okF n d = false := fun h => by
    simp only [okF, decide_eq_false_iff_not]; intro h'; exact h ⟨h'.1, h'.2.1, h'.2.2.1, h'.2.2.2.1⟩
  unfold impl_FracOK.f
  by_cases h1 : d ≥ 1
  · simp only [if_pos h1]
    by_cases h2 : d ≤ 1000000000
    · simp only [if_pos h2]
      by_cases h3 : n ≥ -1000000000
      · simp only [if_pos h3]
        by_cases h4 : n ≤ 1000000000
        · simp only [if_pos h4]
          obtain ⟨g, hg, he⟩ := gcd_ev _ n d (Nat.le_refl _)
          have hgl := gcd_le n d (by omega) (by omega)
          have hi : Ev (fun k => impl_gcd.f k n d) (g.natAbs : Int) := by
            obtain ⟨K, hK⟩ := hg
            refine ⟨K, fun k hk => ?_⟩
            show impl_gcd.l0 k n d = _
            have hk1 : spec_l01Gcd.l0 k n d = some g := hK k hk
            rw [impl_gcd_eq, hk1, Option.bind_some, abs_of g (by omega)]
          refine Ev.bind hi ?_
          refine ev_const ?_
          simp only [okF, he]
          congr 1
          rw [Bool.eq_iff_iff]
          simp only [beq_iff_eq, decide_eq_true_eq]
          constructor
          · intro h; exact ⟨by omega, by omega, by omega, by omega, by omega⟩
          · intro h; have := h.2.2.2.2; omega
        · simp only [if_neg h4]; rw [bad (by omega)]; exact Ev.now _
      · simp only [if_neg h3]; rw [bad (by omega)]; exact Ev.now _
    · simp only [if_neg h2]; rw [bad (by omega)]; exact Ev.now _
  · simp only [if_neg h1]; rw [bad (by omega)]; exact Ev.now _

theorem cat_bytes (a b : List UInt8) : (⟨a.toArray⟩ : ByteArray) ++ ⟨b.toArray⟩ = ⟨(a ++ b).toArray⟩ := by
  apply ByteArray.ext
  rw [ByteArray.data_append]
  simp
theorem dd_len : ∀ (u : Nat), (Lib.decDigits u).length ≤ u + 1 := by
  intro u
  induction u using Nat.strongRecOn with
  | _ u ih =>
    rw [Lib.decDigits]
    split
    · simp
    · have := ih (u / 10) (by omega)
      rw [List.length_append, List.length_singleton]; omega
theorem digit_str (u : Nat) (h : u < 10) : strOfNums [(48 + (u : Int)) % 256] = (⟨[UInt8.ofNat (48 + u)].toArray⟩ : ByteArray) := by
  unfold strOfNums
  simp only [List.map_cons, List.map_nil]
  rw [show ((48 + (u : Int)) % 256).toNat = 48 + u by omega]
theorem digits_nat : ∀ (u : Nat), u ≤ 1000000000 → Ev (fun k => spec_l00Digits.f k (u : Int)) (⟨(Lib.decDigits u).toArray⟩ : ByteArray) := by
  intro u
  induction u using Nat.strongRecOn with
  | _ u ih =>
    intro hu
    by_cases h : u < 10
    · refine ev_some fun k => ?_
      simp only [spec_l00Digits.f]
      rw [if_neg (by omega), if_neg (by omega), if_pos (by omega), wr (by omega) (by omega), Lib.decDigits, dif_pos h, digit_str u h]
    · have ih' := ih (u / 10) (by omega) (by omega)
      have e1 : Int.tdiv (u : Int) 10 = ((u / 10 : Nat) : Int) := rfl
      have e2 : Int.tmod (u : Int) 10 = ((u % 10 : Nat) : Int) := rfl
      refine ev_one (fun k => by
        simp only [spec_l00Digits.f]
        rw [if_neg (by omega), if_neg (by omega), if_neg (by omega), e1, e2, wr (n := ((u / 10 : Nat) : Int)) (by omega) (by omega), wr (n := 48 + ((u % 10 : Nat) : Int)) (by omega) (by omega)]) ?_
      refine Ev.bind ih' ?_
      have hl := dd_len (u / 10)
      simp only [Option.bind_some]
      rw [digit_str (u % 10) (by omega)]
      refine ev_const ?_
      rw [if_pos (by simp only [ByteArray.size, List.size_toArray, List.length_singleton]; omega), cat_bytes]
      conv => rhs; rw [Lib.decDigits, dif_neg h]
theorem digits_int (n : Int) (h0 : -1000000000 ≤ n) (h1 : n ≤ 1000000000) : Ev (fun k => spec_l00Digits.f k n) (⟨(Lib.itoa n).toArray⟩ : ByteArray) ∧ (Lib.itoa n).length ≤ 1000000002 := by
  unfold Lib.itoa
  by_cases h : n < 0
  · rw [if_pos h]
    have hl := dd_len n.natAbs
    refine ⟨?_, by simp only [List.length_cons]; omega⟩
    refine ev_one (fun k => by
      simp only [spec_l00Digits.f]
      rw [if_neg (by omega), if_pos (by omega), wr (n := -n) (by omega) (by omega), show -n = ((n.natAbs : Nat) : Int) by omega]) ?_
    refine Ev.bind (digits_nat n.natAbs (by omega)) ?_
    refine ev_const ?_
    rw [if_pos (by simp only [ByteArray.size, List.size_toArray]; omega)]
    have e := cat_bytes [45] (Lib.decDigits n.natAbs)
    exact congrArg some e
  · rw [if_neg h]
    have hl := dd_len n.toNat
    refine ⟨?_, by omega⟩
    have := digits_nat n.toNat (by omega)
    rw [show ((n.toNat : Nat) : Int) = n by omega] at this
    exact this
theorem FnExactFracText : laws_FnExactFracText.Plain := by
  intro n d _ _
  refine Ev.rounds ?_
  unfold laws_FnExactFracText.f laws_toFrac.f
  simp only [Option.bind_some]
  have hs : ∃ x, Ev (fun k => spec_FracText.f k n d) x ∧ Ev (fun k => impl_FracText.f k n d) x := by
    have so := spec_ok n d
    have io := impl_ok n d
    cases h : okF n d with
    | false =>
      rw [h] at so io
      refine ⟨((⟨#[]⟩ : ByteArray), 1), ?_, ?_⟩
      · unfold spec_FracText.f
        refine Ev.bind so ?_
        simp only [Bool.false_eq_true, if_false]; exact Ev.now _
      · unfold impl_FracText.f
        refine Ev.bind io ?_
        simp only [Bool.false_eq_true, if_false]; exact Ev.now _
    | true =>
      rw [h] at so io
      obtain ⟨d1, d2, n1, n2, _⟩ := (okF_iff n d).1 h
      obtain ⟨en, ln⟩ := digits_int n n1 n2
      obtain ⟨ed, ld⟩ := digits_int d (by omega) d2
      have inn : strconv_Itoa_10.f n = some (⟨(Lib.itoa n).toArray⟩ : ByteArray) := by unfold strconv_Itoa_10.f; rw [if_pos (by omega), if_pos (by omega)]
      have idd : strconv_Itoa_10.f d = some (⟨(Lib.itoa d).toArray⟩ : ByteArray) := by unfold strconv_Itoa_10.f; rw [if_pos (by omega), if_pos (by omega)]
      by_cases hd : d > 1
      · have e1 : 1 + (⟨(Lib.itoa d).toArray⟩ : ByteArray).size ≤ 9223372036854775807 := by simp only [ByteArray.size, List.size_toArray]; omega
        have e2 : (⟨(Lib.itoa n).toArray⟩ : ByteArray).size + ((⟨#[47]⟩ : ByteArray) ++ (⟨(Lib.itoa d).toArray⟩ : ByteArray)).size ≤ 9223372036854775807 := by
          have e := cat_bytes [47] (Lib.itoa d)
          have e' : ((⟨#[47]⟩ : ByteArray) ++ (⟨(Lib.itoa d).toArray⟩ : ByteArray)) = ⟨(47 :: Lib.itoa d).toArray⟩ := e
          rw [e']; simp only [ByteArray.size, List.size_toArray, List.length_cons]; omega
        refine ⟨((⟨(Lib.itoa n).toArray⟩ : ByteArray) ++ ((⟨#[47]⟩ : ByteArray) ++ (⟨(Lib.itoa d).toArray⟩ : ByteArray)), 0), ?_, ?_⟩
        · unfold spec_FracText.f
          refine Ev.bind so ?_
          simp only [if_true]
          refine Ev.bind en ?_
          simp only [if_pos hd]
          refine Ev.bind ed ?_
          refine ev_const ?_
          rw [if_pos e1, if_pos e2]
        · unfold impl_FracText.f
          refine Ev.bind io ?_
          simp only [if_true, inn, idd, Option.bind_some, if_pos hd]
          refine ev_const ?_
          rw [if_pos e1, if_pos e2]
      · refine ⟨((⟨(Lib.itoa n).toArray⟩ : ByteArray), 0), ?_, ?_⟩
        · unfold spec_FracText.f
          refine Ev.bind so ?_
          simp only [if_true]
          refine Ev.bind en ?_
          simp only [if_neg hd]
          exact Ev.now _
        · unfold impl_FracText.f
          refine Ev.bind io ?_
          simp only [if_true, inn, Option.bind_some, if_neg hd]
          exact Ev.now _
  obtain ⟨x, sx, ix⟩ := hs
  refine Ev.bind sx ?_
  refine Ev.bind ix ?_
  simp only [if_true]
  exact Ev.now _
end Go.Proofs.YthofhmhcackepaaDoor.Pure
