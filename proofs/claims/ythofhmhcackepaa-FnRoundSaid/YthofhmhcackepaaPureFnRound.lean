/- FnRound over numbers and lists alone: a drawn fraction, rounded in the three ways. -/
import Derived.Test.YthofhmhcackepaaSFnRound
import Derived.Test.YthofhmhcackepaaLib
namespace Go.Proofs.Ythofhmhcackepaa.Pure
open Go.RowKit Go.Proofs.Ythofhmhcackepaa.PFnRound Go.Proofs.YthofhmhcackepaaW.PrintWords Go.Proofs.YthofhmhcackepaaW.PrintLast Go.Proofs.Ythofhmhcackepaa.Lib
set_option linter.unusedVariables false
set_option linter.unusedSimpArgs false

/-- What a source of choices is, after at most so many bytes. -/
structure Src (l : List Int) (a s : Int) (n : Nat) : Prop where
  bytes : ∀ x ∈ l, 0 ≤ x ∧ x ≤ 255
  len : l.length ≤ 1048577
  lo : 0 ≤ a
  hi : a ≤ n
  sl : 0 ≤ s
  sh : s < 2147483648
theorem Src.up {l : List Int} {a s : Int} {n m : Nat} (h : Src l a s n) (hm : n ≤ m) : Src l a s m := ⟨h.bytes, h.len, h.lo, by have := h.hi; omega, h.sl, h.sh⟩
theorem src_new (l : List Int) (hb : ∀ x ∈ l, 0 ≤ x ∧ x ≤ 255) (hl : l.length ≤ 1048577) : ∃ s, spec_l00Source.f l = some (l, 0, s) ∧ Src l 0 s 0 :=
  ⟨_, rfl, ⟨hb, hl, by omega, by omega, by omega, by omega⟩⟩
theorem tmod_pos {a b : Int} (h0 : 0 ≤ a) (hb : 0 < b) : 0 ≤ Int.tmod a b ∧ Int.tmod a b < b := ⟨Int.tmod_nonneg b h0, Int.tmod_lt_of_pos a hb⟩
theorem byte_ok {l : List Int} {a s : Int} {n : Nat} (h : Src l a s n) (hn : n ≤ 4611686018427387904) : ∃ r a' s', spec_l00Src_byte.f l a s = some (r, a', s') ∧ 0 ≤ r ∧ r ≤ 255 ∧ Src l a' s' (n + 1) := by
  obtain ⟨hb, hl, h0, h1, s0, s1⟩ := h
  unfold spec_l00Src_byte.f
  have w1 : wrap64 (a + 1) = a + 1 := wr (by omega) (by omega)
  have w2 : wrap64 (a + 1 - 1) = a := by rw [wr (by omega) (by omega)]; omega
  rw [w1, w2]
  by_cases hc : a + 1 ≤ (l.length : Int)
  · rw [if_pos hc, if_pos h0, if_pos (by omega)]
    have hm := hb _ (rd_mem h0 (show a < (l.length : Int) by omega))
    have w3 : wrap64 (rd l a) = rd l a := wr (by omega) (by omega)
    have w4 : wrap64 (s * 31) = s * 31 := wr (by omega) (by omega)
    have w5 : wrap64 (wrap64 (s * 31 + rd l a) + 7) = s * 31 + rd l a + 7 := by rw [wr (n := s * 31 + rd l a) (by omega) (by omega), wr (by omega) (by omega)]
    rw [w3, w4, w5]
    have t := tmod_pos (a := s * 31 + rd l a + 7) (b := 2147483648) (by omega) (by decide)
    exact ⟨_, _, _, rfl, hm.1, hm.2, hb, hl, by omega, by omega, t.1, t.2⟩
  · rw [if_neg hc]
    by_cases h3 : a + 1 > 3000
    · rw [if_pos h3]
      exact ⟨_, _, _, rfl, by omega, by omega, hb, hl, by omega, by omega, s0, s1⟩
    · rw [if_neg h3]
      have w4 : wrap64 (s * 1103515245) = s * 1103515245 := wr (by omega) (by omega)
      have w5 : wrap64 (s * 1103515245 + 12345) = s * 1103515245 + 12345 := wr (by omega) (by omega)
      rw [w4, w5]
      have t := tmod_pos (a := s * 1103515245 + 12345) (b := 2147483648) (by omega) (by decide)
      have q0 : 0 ≤ Int.tdiv (Int.tmod (s * 1103515245 + 12345) 2147483648) 65536 := Int.tdiv_nonneg t.1 (by decide)
      have q1 : Int.tdiv (Int.tmod (s * 1103515245 + 12345) 2147483648) 65536 ≤ 2147483648 := by
        have := Int.tdiv_le_self 65536 t.1
        omega
      rw [wr (n := Int.tdiv (Int.tmod (s * 1103515245 + 12345) 2147483648) 65536) (by omega) (by omega)]
      have u := tmod_pos (b := 256) q0 (by decide)
      exact ⟨_, _, _, rfl, u.1, by omega, hb, hl, by omega, by omega, t.1, t.2⟩
theorem next_ok {l : List Int} {a s : Int} {n : Nat} (h : Src l a s n) (hn : n ≤ 4611686018427387900) (m : Int) (hm : 1 ≤ m) : ∃ r a' s', spec_l00Src_next.f l a s m = some (r, a', s') ∧ 0 ≤ r ∧ r < m ∧ Src l a' s' (n + 3) := by
  unfold spec_l00Src_next.f
  by_cases h1 : m ≤ 1
  · rw [if_pos h1]; exact ⟨_, _, _, rfl, by omega, by omega, h.up (by omega)⟩
  · rw [if_neg h1]
    by_cases h2 : m ≤ 256
    · rw [if_pos h2]
      obtain ⟨r, a', s', e, r0, r1, h'⟩ := byte_ok h (by omega)
      rw [e]
      simp only [Option.bind_some]
      rw [if_neg (by omega)]
      have t := tmod_pos (a := r) (b := m) r0 (by omega)
      exact ⟨_, _, _, rfl, t.1, t.2, h'.up (by omega)⟩
    · rw [if_neg h2]
      obtain ⟨r, a', s', e, r0, r1, h'⟩ := byte_ok h (by omega)
      obtain ⟨q, b', t', f, q0, q1, h''⟩ := byte_ok h' (by omega)
      obtain ⟨u, c', v', g, u0, u1, h'''⟩ := byte_ok h'' (by omega)
      simp only [e, f, g, Option.bind_some]
      rw [if_neg (by omega)]
      have w1 : wrap64 (r * 65536) = r * 65536 := wr (by omega) (by omega)
      have w2 : wrap64 (q * 256) = q * 256 := wr (by omega) (by omega)
      have w3 : wrap64 (wrap64 (r * 65536 + q * 256) + u) = r * 65536 + q * 256 + u := by rw [wr (n := r * 65536 + q * 256) (by omega) (by omega), wr (by omega) (by omega)]
      rw [w1, w2, w3]
      have t := tmod_pos (a := r * 65536 + q * 256 + u) (b := m) (by omega) (by omega)
      exact ⟨_, _, _, rfl, t.1, t.2, h'''⟩
theorem bytes_of {l : List Int} (h : ∀ x ∈ l, (Lit.int .u8 x).wf = true) : ∀ x ∈ l, 0 ≤ x ∧ x ≤ 255 := fun x hx => wfu8 (h x hx)

def okF (n d : Int) : Bool := decide (1 ≤ d ∧ d ≤ 1000000000 ∧ -1000000000 ≤ n ∧ n ≤ 1000000000 ∧ Nat.gcd n.natAbs d.natAbs = 1)
theorem okF_iff (n d : Int) : okF n d = true ↔ 1 ≤ d ∧ d ≤ 1000000000 ∧ -1000000000 ≤ n ∧ n ≤ 1000000000 ∧ Nat.gcd n.natAbs d.natAbs = 1 := by simp [okF]
theorem gcd_ev : ∀ (m : Nat) (a b : Int), b.natAbs ≤ m → ∃ g, Ev (fun k => spec_l01Gcd.l0 k a b) g ∧ g.natAbs = Nat.gcd a.natAbs b.natAbs := by
  intro m
  induction m with
  | zero =>
    intro a b hb
    obtain rfl : b = 0 := by omega
    exact ⟨a, ev_some fun k => by simp only [spec_l01Gcd.l0, if_true], by simp⟩
  | succ m ih =>
    intro a b hb
    by_cases h : b = 0
    · subst h
      exact ⟨a, ev_some fun k => by simp only [spec_l01Gcd.l0, if_true], by simp⟩
    · have hlt : (Int.tmod a b).natAbs < b.natAbs := by
        rw [Int.natAbs_tmod]; exact Nat.mod_lt _ (by omega)
      obtain ⟨g, hg, he⟩ := ih b (Int.tmod a b) (by omega)
      refine ⟨g, ev_one (fun k => by simp only [spec_l01Gcd.l0]; rw [if_neg h]) hg, ?_⟩
      rw [he, Int.natAbs_tmod, Nat.gcd_comm b.natAbs, ← Nat.gcd_rec, Nat.gcd_comm]
theorem impl_gcd_eq : ∀ (k : Nat) (a b : Int), impl_gcd.l0 k a b = (spec_l01Gcd.l0 k a b).bind fun g => if g < 0 then some (wrap64 (-g)) else some g := by
  intro k
  induction k with
  | zero => intro a b; rfl
  | succ k ih =>
    intro a b
    simp only [impl_gcd.l0, spec_l01Gcd.l0]
    by_cases h : b = 0
    · simp only [if_pos h, Option.bind_some]
    · simp only [if_neg h]; exact ih _ _
theorem abs_of (g : Int) (h : g.natAbs ≤ 1000000000) : (if g < 0 then some (wrap64 (-g)) else some g) = some (g.natAbs : Int) := by
  by_cases h0 : g < 0
  · rw [if_pos h0, wr (by omega) (by omega)]; congr 1; omega
  · rw [if_neg h0]; congr 1; omega
theorem gcd_le (n d : Int) (h1 : 1 ≤ d) (h2 : d ≤ 1000000000) : Nat.gcd n.natAbs d.natAbs ≤ 1000000000 :=
  Nat.le_trans (Nat.gcd_le_right _ (by omega)) (by omega)
theorem impl_ok (n d : Int) : Ev (fun k => impl_FracOK.f k n d) (okF n d) := by
  have bad : ¬ (1 ≤ d ∧ d ≤ 1000000000 ∧ -1000000000 ≤ n ∧ n ≤ 1000000000) → okF n d = false := fun h => by
    simp only [okF, decide_eq_false_iff_not]; intro h'; exact h ⟨h'.1, h'.2.1, h'.2.2.1, h'.2.2.2.1⟩
  unfold impl_FracOK.f
  by_cases h1 : d ≥ 1
  · simp only [if_pos h1]
    by_cases h2 : d ≤ 1000000000
    · simp only [if_pos h2]
      by_cases h3 : n ≥ -1000000000
      · simp only [if_pos h3]
        by_cases h4 : n ≤ 1000000000
        · simp only [if_pos h4]
          obtain ⟨g, hg, he⟩ := gcd_ev _ n d (Nat.le_refl _)
          have hgl := gcd_le n d (by omega) (by omega)
          have hi : Ev (fun k => impl_gcd.f k n d) (g.natAbs : Int) := by
            obtain ⟨K, hK⟩ := hg
            refine ⟨K, fun k hk => ?_⟩
            show impl_gcd.l0 k n d = _
            have hk1 : spec_l01Gcd.l0 k n d = some g := hK k hk
            rw [impl_gcd_eq, hk1, Option.bind_some, abs_of g (by omega)]
          refine Ev.bind hi ?_
          refine ev_const ?_
          simp only [okF, he]
          congr 1
          rw [Bool.eq_iff_iff]
          simp only [beq_iff_eq, decide_eq_true_eq]
          constructor
          · intro h; exact ⟨by omega, by omega, by omega, by omega, by omega⟩
          · intro h; have := h.2.2.2.2; omega
        · simp only [if_neg h4]; rw [bad (by omega)]; exact Ev.now _
      · simp only [if_neg h3]; rw [bad (by omega)]; exact Ev.now _
    · simp only [if_neg h2]; rw [bad (by omega)]; exact Ev.now _
  · simp only [if_neg h1]; rw [bad (by omega)]; exact Ev.now _

def roundM (n d mode : Int) : Int × Int :=
  if okF n d = true then
    (if mode = 1 then (n / d, 0) else if mode = 2 then (if n % d > 0 then (n / d + 1, 0) else (n / d, 0))
      else if mode = 3 then (if 2 * (n % d) > d then (n / d + 1, 0) else if 2 * (n % d) = d then (if Int.tmod (n / d) 2 = 0 then (n / d, 0) else (n / d + 1, 0)) else (n / d, 0)) else (0, 17))
  else (0, 1)
theorem floor_bounds {n d : Int} (h1 : 1 ≤ d) (h3 : -1000000000 ≤ n) (h4 : n ≤ 1000000000) : -1000000000 ≤ n / d ∧ n / d ≤ 1000000000 := by
  constructor
  · rw [Int.le_ediv_iff_mul_le (by omega)]
    have : 1000000000 * 1 ≤ 1000000000 * d := Int.mul_le_mul_of_nonneg_left h1 (by decide)
    omega
  · have : n / d < 1000000000 + 1 := by
      rw [Int.ediv_lt_iff_lt_mul (by omega)]
      have : (1000000000 + 1) * 1 ≤ (1000000000 + 1) * d := Int.mul_le_mul_of_nonneg_left h1 (by decide)
      omega
    omega
theorem tdiv_floor (n d : Int) (h : 1 ≤ d) : n / d = if Int.tmod n d < 0 then Int.tdiv n d - 1 else Int.tdiv n d := by
  have e1 := Int.mul_tdiv_add_tmod n d
  have e2 := Int.mul_ediv_add_emod n d
  have m1 := Int.emod_nonneg n (show d ≠ 0 by omega)
  have m2 := Int.emod_lt_of_pos n (show 0 < d by omega)
  have m3 := Int.tmod_lt_of_pos n (show 0 < d by omega)
  have m4 : -d < Int.tmod n d := by
    have := Int.natAbs_tmod n d
    have h5 : (Int.tmod n d).natAbs < d.natAbs := by rw [this]; exact Nat.mod_lt _ (by omega)
    omega
  split
  · rename_i hn
    have : d * (n / d - (Int.tdiv n d - 1)) = (Int.tmod n d + d) - n % d := by rw [Int.mul_sub, Int.mul_sub]; omega
    have hz : n / d - (Int.tdiv n d - 1) = 0 := by
      rcases Int.lt_trichotomy (n / d - (Int.tdiv n d - 1)) 0 with h' | h' | h'
      · have : d * (n / d - (Int.tdiv n d - 1)) ≤ d * (-1) := Int.mul_le_mul_of_nonneg_left (by omega) (by omega)
        omega
      · exact h'
      · have : d * 1 ≤ d * (n / d - (Int.tdiv n d - 1)) := Int.mul_le_mul_of_nonneg_left (by omega) (by omega)
        omega
    omega
  · rename_i hn
    have : d * (n / d - Int.tdiv n d) = Int.tmod n d - n % d := by rw [Int.mul_sub]; omega
    have hz : n / d - Int.tdiv n d = 0 := by
      rcases Int.lt_trichotomy (n / d - Int.tdiv n d) 0 with h' | h' | h'
      · have : d * (n / d - Int.tdiv n d) ≤ d * (-1) := Int.mul_le_mul_of_nonneg_left (by omega) (by omega)
        omega
      · exact h'
      · have : d * 1 ≤ d * (n / d - Int.tdiv n d) := Int.mul_le_mul_of_nonneg_left (by omega) (by omega)
        omega
    omega
theorem tdiv_bounds {n d : Int} (h1 : 1 ≤ d) (h3 : -1000000000 ≤ n) (h4 : n ≤ 1000000000) : -1000000000 ≤ Int.tdiv n d ∧ Int.tdiv n d ≤ 1000000001 := by
  have f := tdiv_floor n d h1
  have b := floor_bounds h1 h3 h4
  split at f <;> omega
theorem mul_floor {n d : Int} : wrap64 (n - (n - n % d)) = wrap64 (n % d) := by congr 1; omega
theorem impl_round (n d mode : Int) : Ev (fun k => impl_FracRound.f k n d mode) (roundM n d mode) := by
  unfold impl_FracRound.f
  refine Ev.bind (impl_ok n d) ?_
  unfold roundM
  by_cases h : okF n d = true
  · simp only [if_pos h]
    obtain ⟨h1, h2, h3, h4, hg⟩ := (okF_iff n d).1 h
    have f := tdiv_floor n d h1
    have b := floor_bounds h1 h3 h4
    have tb := tdiv_bounds h1 h3 h4
    have m1 := Int.emod_nonneg n (show d ≠ 0 by omega)
    have m2 := Int.emod_lt_of_pos n (show 0 < d by omega)
    have e2 := Int.mul_ediv_add_emod n d
    have hfl : impl_floorDiv.f n d = some (n / d) := by
      unfold impl_floorDiv.f
      rw [if_neg (by omega), wr (by omega) (by omega)]
      by_cases h0 : Int.tmod n d = 0
      · rw [if_pos h0]; rw [if_neg (by omega)] at f; rw [f]
      · rw [if_neg h0]
        have hd : ¬ d < 0 := by omega
        by_cases hn : n < 0
        · have : Int.tmod n d < 0 := by
            have := Int.tmod_nonneg d (show 0 ≤ -n by omega)
            rw [Int.neg_tmod] at this
            omega
          rw [if_pos this] at f
          simp only [hn, hd, decide_true, decide_false, bne_iff_ne, ne_eq, reduceCtorEq, not_false_eq_true, if_true]
          rw [wr (by omega) (by omega), f]
        · have : ¬ Int.tmod n d < 0 := by
            have := Int.tmod_nonneg d (show 0 ≤ n by omega)
            omega
          rw [if_neg this] at f
          simp only [hn, hd, decide_false, bne_self_eq_false, Bool.false_eq_true, if_false, f]
    have hs : wrap64 (n / d + 1) = n / d + 1 := wr (by omega) (by omega)
    have hm : wrap64 (n / d * d) = n - n % d := by rw [Int.mul_comm]; rw [wr (by omega) (by omega)]; omega
    have hr : wrap64 (n - (n - n % d)) = n % d := by rw [wr (by omega) (by omega)]; omega
    simp only [hfl, Option.bind_some, hs]
    by_cases hd : d > 1
    · simp only [if_pos hd]
      have hpos : n % d ≠ 0 := by
        intro h0
        have hdv : d.natAbs ∣ n.natAbs := Int.natAbs_dvd_natAbs.2 (Int.dvd_of_emod_eq_zero h0)
        rw [Nat.gcd_eq_right hdv] at hg
        omega
      have hu : wrap64 ((n / d + 1) * d) = n - n % d + d := by
        rw [Int.add_mul, Int.one_mul, Int.mul_comm]; rw [wr (by omega) (by omega)]; omega
      have hv : wrap64 (n - n % d + d - n) = d - n % d := by rw [wr (by omega) (by omega)]; omega
      refine ev_some fun k => ?_
      simp only [impl_FracRound.j0, hm, hr, hu, hv]
      grind
    · simp only [if_neg hd]
      obtain rfl : d = 1 := by omega
      refine ev_some fun k => ?_
      have z : n % 1 = 0 := by omega
      have q : n / 1 = n := by omega
      rw [q] at hm
      rw [z] at hm
      have hv : wrap64 (n - 0 - n) = 0 := by rw [wr (by omega) (by omega)]; omega
      simp only [impl_FracRound.j0, z, q, hm, hv]
      grind
  · simp only [if_neg h]; exact Ev.now _

theorem fracOf_ok (n d : Int) (hn0 : -2000000000 ≤ n) (hn1 : n ≤ 2000000000) (hd0 : 1 ≤ d) (hd1 : d ≤ 2000000000) : ∃ p q c, Ev (fun k => spec_FracOf.f k n d) (p, q, c) ∧ (c = 0 → okF p q = true) := by
  have hlow : ∀ x : Int, -2000000000 ≤ x → x ≤ 2000000000 → spec_l01Low.f x = some (-(x.natAbs : Int)) := fun x h0 h1 => by
    unfold spec_l01Low.f
    by_cases h : x > 0
    · rw [if_pos h, wr (by omega) (by omega)]; congr 1; omega
    · rw [if_neg h]; congr 1; omega
  obtain ⟨g, hg, he⟩ := gcd_ev _ (-(n.natAbs : Int)) (-(d.natAbs : Int)) (Nat.le_refl _)
  simp only [Int.natAbs_neg, Int.natAbs_natCast] at he
  have hG0 : 0 < Nat.gcd n.natAbs d.natAbs := Nat.gcd_pos_of_pos_right _ (by omega)
  have hG1 : Nat.gcd n.natAbs d.natAbs ≤ d.natAbs := Nat.gcd_le_right _ (by omega)
  have hdA : Nat.gcd n.natAbs d.natAbs ∣ n.natAbs := Nat.gcd_dvd_left _ _
  have hdB : Nat.gcd n.natAbs d.natAbs ∣ d.natAbs := Nat.gcd_dvd_right _ _
  have hco : Nat.gcd (n.natAbs / Nat.gcd n.natAbs d.natAbs) (d.natAbs / Nat.gcd n.natAbs d.natAbs) = 1 := Nat.gcd_div_gcd_div_gcd_of_pos_right (by omega)
  have hqd : 1 ≤ d.natAbs / Nat.gcd n.natAbs d.natAbs := Nat.div_pos hG1 hG0
  have hAle : n.natAbs / Nat.gcd n.natAbs d.natAbs ≤ n.natAbs := Nat.div_le_self _ _
  have hBle : d.natAbs / Nat.gcd n.natAbs d.natAbs ≤ d.natAbs := Nat.div_le_self _ _
  revert hG0 hG1 hdA hdB hco hqd hAle hBle he
  generalize hGe : Nat.gcd n.natAbs d.natAbs = G
  generalize hAe : n.natAbs / G = A
  generalize hBe : d.natAbs / G = B
  intro he hG0 hG1 hdA hdB hco hqd hAle hBle
  -- the end: a reduced fraction, or the code 12
  have fin2 : ∀ (sg : Bool) (x : Bool), ∃ p q c, Ev (fun k => spec_FracOf.j2 k sg (A : Int) (B : Int) x) (p, q, c) ∧ ((x = false → (A : Int) ≤ 1000000000 ∧ (B : Int) ≤ 1000000000) → c = 0 → okF p q = true) := by
    intro sg x
    cases x with
    | true => exact ⟨0, 0, 12, ev_some fun k => by simp only [spec_FracOf.j2, if_true], fun _ h => by omega⟩
    | false =>
      cases sg with
      | true =>
        refine ⟨-(A : Int), B, 0, ev_some fun k => ?_, fun h _ => ?_⟩
        · simp only [spec_FracOf.j2, Bool.false_eq_true, if_false, if_true]; rw [wr (by omega) (by omega)]
        · have := h rfl
          exact (okF_iff _ _).2 ⟨by omega, by omega, by omega, by omega, by simpa using hco⟩
      | false =>
        refine ⟨(A : Int), B, 0, ev_some fun k => ?_, fun h _ => ?_⟩
        · simp only [spec_FracOf.j2, Bool.false_eq_true, if_false]
        · have := h rfl
          exact (okF_iff _ _).2 ⟨by omega, by omega, by omega, by omega, by simpa using hco⟩
  have fin1 : ∀ (sg : Bool), ∃ p q c, Ev (fun k => spec_FracOf.j1 k sg (A : Int) (B : Int)) (p, q, c) ∧ (c = 0 → okF p q = true) := by
    intro sg
    by_cases h : (A : Int) > 1000000000
    · obtain ⟨p, q, c, e, hc⟩ := fin2 sg true
      exact ⟨p, q, c, ev_one (fun k => by simp only [spec_FracOf.j1]; rw [if_pos h]) e, hc fun h => by cases h⟩
    · obtain ⟨p, q, c, e, hc⟩ := fin2 sg (decide ((B : Int) > 1000000000))
      exact ⟨p, q, c, ev_one (fun k => by simp only [spec_FracOf.j1]; rw [if_neg h]) e, hc fun h => by have := of_decide_eq_false h; omega⟩
  have fin0 : ∀ (sg : Bool), ∃ p q c, Ev (fun k => spec_FracOf.j0 k sg (-(n.natAbs : Int)) (-(d.natAbs : Int)) (-(G : Int))) (p, q, c) ∧ (c = 0 → okF p q = true) := by
    intro sg
    by_cases h : (-(G : Int)) = -1
    · obtain rfl : G = 1 := by omega
      have eA : A = n.natAbs := by rw [← hAe, Nat.div_one]
      have eB : B = d.natAbs := by rw [← hBe, Nat.div_one]
      by_cases h1 : (-(n.natAbs : Int)) < -1000000000
      · exact ⟨0, 0, 12, ev_some fun k => by simp only [spec_FracOf.j0]; rw [if_pos h, if_pos h1], fun h => by omega⟩
      · by_cases h2 : (-(d.natAbs : Int)) < -1000000000
        · exact ⟨0, 0, 12, ev_some fun k => by simp only [spec_FracOf.j0]; rw [if_pos h, if_neg h1, if_pos h2], fun h => by omega⟩
        · obtain ⟨p, q, c, e, hc⟩ := fin1 sg
          refine ⟨p, q, c, ev_one (fun k => ?_) e, hc⟩
          simp only [spec_FracOf.j0]
          rw [if_pos h, if_neg h1, if_neg h2, wr (by omega) (by omega), wr (by omega) (by omega), eA, eB, Int.neg_neg, Int.neg_neg]
    · obtain ⟨p, q, c, e, hc⟩ := fin1 sg
      refine ⟨p, q, c, ev_one (fun k => ?_) e, hc⟩
      simp only [spec_FracOf.j0]
      have d1 : Int.tdiv (-(n.natAbs : Int)) (-(G : Int)) = (A : Int) := by
        rw [Int.neg_tdiv, Int.tdiv_neg, Int.neg_neg, ← hAe]; rfl
      have d2 : Int.tdiv (-(d.natAbs : Int)) (-(G : Int)) = (B : Int) := by
        rw [Int.neg_tdiv, Int.tdiv_neg, Int.neg_neg, ← hBe]; rfl
      rw [if_neg h, if_neg (by omega), d1, d2, wr (by omega) (by omega), wr (by omega) (by omega)]
  obtain ⟨p, q, c, e, hc⟩ := fin0 ((decide (n < 0)) != (decide (d < 0)))
  refine ⟨p, q, c, ?_, hc⟩
  unfold spec_FracOf.f
  simp only [if_neg (show ¬ d = 0 by omega), hlow n hn0 hn1, hlow d (by omega) hd1, Option.bind_some]
  refine Ev.bind (g := fun k => spec_l01Gcd.f k (-(n.natAbs : Int)) (-(d.natAbs : Int))) (a := g) hg ?_
  by_cases hp : g > 0
  · simp only [if_pos hp]
    rw [wr (by omega) (by omega), show -g = -(G : Int) by omega]; exact e
  · simp only [if_neg hp]
    rw [show g = -(G : Int) by omega]; exact e
/-- A drawn fraction is a right one. -/
theorem frac_drawn {l : List Int} {a s : Int} {n : Nat} (h : Src l a s n) (hn : n ≤ 1000000) : ∃ p q a' s', Ev (fun k => spec_l00Src_frac.f k l a s) (p, q, a', s') ∧ okF p q = true ∧ Src l a' s' (n + 15) := by
  unfold spec_l00Src_frac.f
  obtain ⟨r1, a1, s1, e1, b1, c1, h1⟩ := next_ok h (by omega) 41 (by omega)
  obtain ⟨r2, a2, s2, e2, b2, c2, h2⟩ := next_ok h1 (by omega) 12 (by omega)
  obtain ⟨r3, a3, s3, e3, b3, c3, h3⟩ := next_ok h2 (by omega) 9 (by omega)
  simp only [e1, e2, e3, Option.bind_some]
  have key : ∀ (x y : Int) (a' s' : Int), Src l a' s' (n + 15) → -2000000000 ≤ x → x ≤ 2000000000 → 1 ≤ y → y ≤ 2000000000 → ∃ p q a'' s'', Ev (fun k => (spec_FracOf.f k x y).bind fun bt => if bt.2.2 = 0 then some (bt.1, bt.2.1, a', s') else some (1, 2, a', s')) (p, q, a'', s'') ∧ okF p q = true ∧ Src l a'' s'' (n + 15) := by
    intro x y a' s' hs x0 x1 y0 y1
    obtain ⟨p, q, c, e, hc⟩ := fracOf_ok x y x0 x1 y0 y1
    by_cases h0 : c = 0
    · exact ⟨p, q, a', s', Ev.bind e (ev_const (by simp [h0])), hc h0, hs⟩
    · exact ⟨1, 2, a', s', Ev.bind e (ev_const (by simp [h0])), by decide, hs⟩
  by_cases g0 : r3 = 0
  · simp only [if_pos g0]
    obtain ⟨r4, a4, s4, e4, b4, c4, h4⟩ := next_ok h3 (by omega) 2000000 (by omega)
    obtain ⟨r5, a5, s5, e5, b5, c5, h5⟩ := next_ok h4 (by omega) 1000000 (by omega)
    simp only [e4, e5, Option.bind_some]
    rw [wr (n := r4 - 1000000) (by omega) (by omega), wr (n := 1 + r5) (by omega) (by omega)]
    exact key _ _ _ _ (h5.up (by omega)) (by omega) (by omega) (by omega) (by omega)
  · simp only [if_neg g0]
    by_cases g1 : r3 = 1
    · simp only [if_pos g1]
      obtain ⟨r4, a4, s4, e4, b4, c4, h4⟩ := next_ok h3 (by omega) 3 (by omega)
      obtain ⟨r5, a5, s5, e5, b5, c5, h5⟩ := next_ok h4 (by omega) 2 (by omega)
      simp only [e4, e5, Option.bind_some]
      rw [wr (n := 1000000000 - r4) (by omega) (by omega), wr (n := 1 + r5) (by omega) (by omega)]
      exact key _ _ _ _ (h5.up (by omega)) (by omega) (by omega) (by omega) (by omega)
    · simp only [if_neg g1]
      by_cases g2 : r3 = 2
      · simp only [if_pos g2]
        obtain ⟨r4, a4, s4, e4, b4, c4, h4⟩ := next_ok h3 (by omega) 5 (by omega)
        obtain ⟨r5, a5, s5, e5, b5, c5, h5⟩ := next_ok h4 (by omega) 3 (by omega)
        simp only [e4, e5, Option.bind_some]
        rw [wr (n := 1 + r4) (by omega) (by omega), wr (n := 1000000000 - r5) (by omega) (by omega)]
        exact key _ _ _ _ (h5.up (by omega)) (by omega) (by omega) (by omega) (by omega)
      · simp only [if_neg g2]
        rw [wr (n := r1 - 20) (by omega) (by omega), wr (n := 1 + r2) (by omega) (by omega)]
        by_cases g3 : r3 = 3
        · simp only [if_pos g3]
          exact key _ _ _ _ (h3.up (by omega)) (by omega) (by omega) (by omega) (by omega)
        · simp only [if_neg g3]
          exact key _ _ _ _ (h3.up (by omega)) (by omega) (by omega) (by omega) (by omega)

theorem abs_eq (x : Int) (h0 : -9000000000 ≤ x) (h1 : x ≤ 9000000000) : laws_abs.f x = some (x.natAbs : Int) := by
  unfold laws_abs.f
  by_cases h : x < 0
  · rw [if_pos h, wr (by omega) (by omega)]; congr 1; omega
  · rw [if_neg h]; congr 1; omega
theorem judged (k : Nat) (n d : Int) (h : okF n d = true) :
    laws_FnRound.j0 (k + 1) (roundM n d 1).1 (roundM n d 2).1 (roundM n d 3).1 ((roundM n d 3).2 != 0) n d = some true ∧ (roundM n d 1).2 = 0 ∧ (roundM n d 2).2 = 0 := by
  obtain ⟨h1, h2, h3, h4, _⟩ := (okF_iff n d).1 h
  have b := floor_bounds h1 h3 h4
  have m1 := Int.emod_nonneg n (show d ≠ 0 by omega)
  have m2 := Int.emod_lt_of_pos n (show 0 < d by omega)
  have e2 := Int.mul_ediv_add_emod n d
  have hr1 : roundM n d 1 = (n / d, 0) := by unfold roundM; rw [if_pos h, if_pos rfl]
  have hr2 : roundM n d 2 = (if n % d > 0 then n / d + 1 else n / d, 0) := by
    unfold roundM; rw [if_pos h, if_neg (by decide), if_pos rfl]; split <;> rfl
  have hr3 : roundM n d 3 = (if 2 * (n % d) > d then n / d + 1 else if 2 * (n % d) = d then (if Int.tmod (n / d) 2 = 0 then n / d else n / d + 1) else n / d, 0) := by
    unfold roundM; rw [if_pos h, if_neg (by decide), if_neg (by decide), if_pos rfl]
    split
    · rfl
    · split
      · split <;> rfl
      · rfl
  refine ⟨?_, by rw [hr1], by rw [hr2]⟩
  rw [hr1, hr2, hr3]
  simp only [bne_self_eq_false, laws_FnRound.j0, Bool.false_eq_true, if_false]
  have hm : n / d * d = n - n % d := by rw [Int.mul_comm]; omega
  have hu : (n / d + 1) * d = n - n % d + d := by rw [Int.add_mul, Int.one_mul, Int.mul_comm]; omega
  have hv : (n / d - 1) * d = n - n % d - d := by rw [Int.sub_mul, Int.one_mul, Int.mul_comm]; omega
  have w1 : wrap64 (n / d * d) = n - n % d := by rw [hm, wr (by omega) (by omega)]
  have w2 : wrap64 (n / d + 1) = n / d + 1 := wr (by omega) (by omega)
  have w3 : wrap64 ((n / d + 1) * d) = n - n % d + d := by rw [hu, wr (by omega) (by omega)]
  have w4 : wrap64 (n / d + 1 - 1) = n / d := by rw [wr (by omega) (by omega)]; omega
  have w5 : wrap64 (n / d - 1) = n / d - 1 := wr (by omega) (by omega)
  have w6 : wrap64 ((n / d - 1) * d) = n - n % d - d := by rw [hv, wr (by omega) (by omega)]
  have w7 : wrap64 (2 * wrap64 (n - (n - n % d))) = 2 * (n % d) := by rw [wr (n := n - (n - n % d)) (by omega) (by omega), wr (by omega) (by omega)]; omega
  have w8 : wrap64 (2 * wrap64 (n - (n - n % d + d))) = 2 * (n % d) - 2 * d := by rw [wr (n := n - (n - n % d + d)) (by omega) (by omega), wr (by omega) (by omega)]; omega
  have a1 := abs_eq (2 * (n % d)) (by omega) (by omega)
  have a2 := abs_eq (2 * (n % d) - 2 * d) (by omega) (by omega)
  have t1 : Int.tmod (n / d) 2 = 0 → (Int.tmod (n / d) 2 == 0) = true := fun h => by simp [h]
  have t2 : Int.tmod (n / d) 2 ≠ 0 → (Int.tmod (n / d + 1) 2 == 0) = true := fun h => by
    have : Int.tmod (n / d) 2 ≠ 0 := h
    have h1 : (n / d) % 2 ≠ 0 := fun z => h (Int.tmod_eq_zero_of_dvd (Int.dvd_of_emod_eq_zero z))
    have h2 : (n / d + 1) % 2 = 0 := by omega
    rw [Int.tmod_eq_zero_of_dvd (Int.dvd_of_emod_eq_zero h2)]; rfl
  rw [w1, w2, w3, if_neg (by omega), if_neg (by omega)]
  by_cases g0 : n % d > 0
  · simp only [if_pos g0, w3, w4, w1]
    rw [if_neg (by omega), if_neg (by omega)]
    by_cases g1 : 2 * (n % d) > d
    · simp only [if_pos g1]
      rw [if_neg (by omega), if_pos trivial, w3, w8, a2]
      simp only [Option.bind_some]
      rw [if_pos (by omega)]
    · simp only [if_neg g1]
      by_cases g2 : 2 * (n % d) = d
      · simp only [if_pos g2]
        by_cases g3 : Int.tmod (n / d) 2 = 0
        · simp only [if_pos g3, w1, w7, a1, Option.bind_some, if_true]
          rw [if_neg (by omega), if_pos (by omega), t1 g3]
        · simp only [if_neg g3]
          rw [if_neg (by omega), if_pos trivial, w3, w8, a2]
          simp only [Option.bind_some]
          rw [if_neg (by omega), if_pos (by omega), t2 g3]
      · simp only [if_neg g2, w1, w7, a1, Option.bind_some, if_true]
        rw [if_pos (by omega)]
  · simp only [if_neg g0, w1, w5, w6]
    rw [if_neg (by omega), if_neg (by omega)]
    simp only [if_neg (show ¬ 2 * (n % d) > d by omega), if_neg (show ¬ 2 * (n % d) = d by omega), w1, w7, a1, Option.bind_some, if_true]
    rw [if_pos (by omega)]
theorem FnRound : laws_FnRound.Plain := by
  intro l hl
  refine Ev.rounds ?_
  unfold laws_FnRound.f spec_FracsOf.f
  by_cases h1 : (l.length : Int) > 1048576
  · simp only [if_pos h1]; exact ev_const rfl
  simp only [if_neg h1]
  obtain ⟨s, e0, h0⟩ := src_new l (bytes_of hl.2) (by omega)
  obtain ⟨p, q, a1, s1, e1, ok, g1⟩ := frac_drawn h0 (by omega)
  obtain ⟨p2, q2, a2, s2, e2, _, g2⟩ := frac_drawn g1 (by omega)
  obtain ⟨p3, q3, a3, s3, e3, _, g3⟩ := frac_drawn g2 (by omega)
  have hd : Ev (fun k => spec_FracsOf.f k l) (p, q, p2, q2, p3, q3) := by
    unfold spec_FracsOf.f
    simp only [e0, Option.bind_some]
    refine Ev.bind e1 ?_
    refine Ev.bind e2 ?_
    exact Ev.bind e3 (Ev.now _)
  refine Ev.bind hd ?_
  refine Ev.bind (impl_round p q 1) ?_
  refine Ev.bind (impl_round p q 2) ?_
  refine Ev.bind (impl_round p q 3) ?_
  refine ev_some fun k => ?_
  obtain ⟨j, c1, c2⟩ := judged k p q ok
  simp only [c1, c2, if_true]
  exact j
end Go.Proofs.Ythofhmhcackepaa.Pure
