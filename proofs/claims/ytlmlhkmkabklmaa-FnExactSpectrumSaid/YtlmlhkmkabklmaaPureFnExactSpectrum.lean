/- FnExactSpectrum over bits and lists alone: the program's Spectrum and the reference's answer alike at every list of floats, which reads as before; what came back is held. -/
import Derived.Test.YtlmlhkmkabklmaaSFnExactSpectrum
import Derived.Test.YtlmlhkmkabklmaaLib
import Derived.Test.YtlmlhkmkabklmaaFlt
namespace Go.Proofs.Ytlmlhkmkabklmaa.Pure
open Go.RowKit Go.Proofs.Ytlmlhkmkabklmaa.PFnExactSpectrum Go.Proofs.YtlmlhkmkabklmaaW.PrintWords Go.Proofs.YtlmlhkmkabklmaaW.PrintLast Go.Proofs.Ytlmlhkmkabklmaa.Lib
set_option linter.unusedVariables false
set_option linter.unusedSimpArgs false
set_option exponentiation.threshold 5000

/-! ### Rounding, roughly: what is written lies near what was meant -/
theorem even_cut (neg : Bool) (n drop : Nat) : n ≤ Ieee.Toward.even.cut neg n drop * 2 ^ drop + 2 ^ drop ∧ Ieee.Toward.even.cut neg n drop * 2 ^ drop ≤ n + 2 ^ drop := by
  unfold Ieee.Toward.cut
  simp only [Nat.shiftLeft_eq, Nat.one_mul]
  by_cases h : drop ≤ n.log2 + 2
  · rw [Nat.min_eq_left h]
    have h1 := Nat.div_add_mod n (2 ^ drop)
    have h2 := Nat.mod_lt n (Nat.two_pow_pos drop)
    generalize n / 2 ^ drop = q at *
    generalize n % 2 ^ drop = r at *
    generalize 2 ^ drop = g at *
    have h3 : ∀ b : Bool, b.toNat = 0 ∨ b.toNat = 1 := by intro b; cases b <;> simp
    generalize hb : (decide (g < 2 * r) || (g == 2 * r && q % 2 == 1)) = b
    have e : g * q = q * g := Nat.mul_comm _ _
    rcases h3 b with hb' | hb' <;> rw [hb'] <;> simp only [Nat.add_mul, Nat.one_mul, Nat.zero_mul, Nat.add_zero] <;> constructor <;> omega
  · rw [Nat.min_eq_right (by omega)]
    have hn : n < 2 ^ (n.log2 + 1) := Nat.lt_log2_self
    have e2 : 2 ^ (n.log2 + 2) = 2 * 2 ^ (n.log2 + 1) := by rw [Nat.pow_succ, Nat.mul_comm]
    have hd : n / 2 ^ (n.log2 + 2) = 0 := Nat.div_eq_of_lt (by omega)
    have hm : n % 2 ^ (n.log2 + 2) = n := Nat.mod_eq_of_lt (by omega)
    rw [hd, hm]
    have f1 : decide (2 ^ (n.log2 + 2) < 2 * n) = false := decide_eq_false (by omega)
    have f2 : (2 ^ (n.log2 + 2) == 2 * n && 0 % 2 == 1) = false := by simp
    rw [f1, f2]
    have : 2 ^ (n.log2 + 2) ≤ 2 ^ drop := Nat.pow_le_pow_right (by omega) (by omega)
    simp only [Bool.or_false, Bool.toNat_false, Nat.add_zero, Nat.zero_mul, Nat.zero_add]
    constructor <;> omega
/-- The number that a word of a finite rung stands for, of a significand and a binade. -/
theorem read_rung (f : Ieee.Format) (neg : Bool) (q kept : Nat) (hk : kept ≤ 2 * f.binade) (hq : q = 0 ∨ f.binade ≤ kept) (hb : 0 < f.binade) (hi : q * f.binade + kept < f.infRung) (hs : f.infRung < f.signWeight) :
    ∃ m : Nat, ∃ d : Nat, f.read (f.word neg (q * f.binade + kept)) = .number neg m (f.leastPlace + d) ∧ m * 2 ^ d = kept * 2 ^ q := by
  have w1 : f.word neg (q * f.binade + kept) / f.signWeight % 2 = neg.toNat := by
    unfold Ieee.Format.word
    cases neg
    · simp only [Bool.false_eq_true, if_false, Bool.toNat_false]; rw [Nat.div_eq_of_lt (by omega)]
    · simp only [if_true, Bool.toNat_true]; rw [Nat.add_div_left _ (by omega), Nat.div_eq_of_lt (by omega)]
  have w2 : f.word neg (q * f.binade + kept) % f.signWeight = q * f.binade + kept := by
    unfold Ieee.Format.word
    cases neg
    · simp only [Bool.false_eq_true, if_false]; exact Nat.mod_eq_of_lt (by omega)
    · simp only [if_true]; rw [Nat.add_mod_left]; exact Nat.mod_eq_of_lt (by omega)
  have hneg : (neg.toNat == 1) = neg := by cases neg <;> rfl
  unfold Ieee.Format.read
  simp only [w1, w2, hneg]
  generalize f.binade = b at *
  by_cases c1 : q * b + kept < b
  · rw [if_pos c1]
    have q0 : q = 0 := by
      rcases hq with h | h
      · exact h
      · have : 0 ≤ q * b := Nat.zero_le _; omega
    subst q0
    exact ⟨kept, 0, by simp, by simp⟩
  · rw [if_neg c1, if_pos hi]
    refine ⟨_, _, rfl, ?_⟩
    by_cases k2 : kept < b
    · have q0 : q = 0 := by rcases hq with h | h
                            · exact h
                            · omega
      subst q0; omega
    · by_cases k3 : kept = 2 * b
      · subst k3
        have e1 : q * b + 2 * b = b * (q + 2) := by rw [Nat.mul_add, Nat.mul_comm b q, Nat.mul_comm b 2]
        rw [e1, Nat.mul_mod_right, Nat.mul_div_cancel_left _ hb]
        have : q + 2 - 1 = q + 1 := by omega
        rw [this, Nat.pow_succ, Nat.add_zero, ← Nat.mul_assoc, Nat.mul_comm (b * 2 ^ q) 2, Nat.mul_assoc 2 b]
      · have e1 : q * b + kept = b * (q + 1) + (kept - b) := by rw [Nat.mul_add, Nat.mul_comm b q]; omega
        rw [e1, Nat.mul_add_mod, Nat.mod_eq_of_lt (by omega), Nat.mul_add_div hb, Nat.div_eq_of_lt (show kept - b < b by omega)]
        have : q + 1 + 0 - 1 = q := by omega
        rw [this]
        have : b + (kept - b) = kept := by omega
        rw [this]
/-- What a word stands for, in units of 2^-2200. -/
def FinW (f : Ieee.Format) (x : Nat) (v : Int) : Prop := ∃ (s : Bool) (m : Nat) (e : Int), f.read x = .number s m e ∧ -1100 ≤ e ∧ Ieee.signed s m (e + 2200).toNat = v
theorem FinW.uniq {f : Ieee.Format} {x : Nat} {v w : Int} (h : FinW f x v) (h' : FinW f x w) : v = w := by
  obtain ⟨s, m, e, a, _, c⟩ := h
  obtain ⟨s', m', e', a', _, c'⟩ := h'
  rw [a] at a'; cases a'; rw [← c, ← c']
theorem signed_abs (s : Bool) (m u : Nat) : (Ieee.signed s m u).natAbs = m * 2 ^ u := by
  have h : (((m <<< u : Nat) : Int)).natAbs = m * 2 ^ u := by rw [Int.natAbs_natCast, Nat.shiftLeft_eq]
  unfold Ieee.signed
  cases s
  · rw [if_neg (by simp)]; exact h
  · rw [if_pos rfl, Int.natAbs_neg]; exact h
theorem signed_pos (m u : Nat) : Ieee.signed false m u = ((m * 2 ^ u : Nat) : Int) := by
  unfold Ieee.signed; rw [if_neg (by simp), Nat.shiftLeft_eq]
theorem signed_neg (m u : Nat) : Ieee.signed true m u = -((m * 2 ^ u : Nat) : Int) := by
  unfold Ieee.signed; rw [if_pos rfl, Nat.shiftLeft_eq]
theorem cut_low (neg : Bool) (n drop : Nat) : n / 2 ^ drop ≤ Ieee.Toward.even.cut neg n drop := by
  unfold Ieee.Toward.cut
  simp only [Nat.shiftLeft_eq, Nat.one_mul]
  by_cases h : drop ≤ n.log2 + 2
  · rw [Nat.min_eq_left h]; exact Nat.le_add_right _ _
  · have hn : n < 2 ^ (n.log2 + 1) := Nat.lt_log2_self
    have : 2 ^ (n.log2 + 1) ≤ 2 ^ drop := Nat.pow_le_pow_right (by omega) (by omega)
    rw [Nat.div_eq_of_lt (by omega)]; exact Nat.zero_le _
/-- The formats that Go has: their bits. -/
structure Fmt (f : Ieee.Format) : Prop where
  fb : 23 ≤ f.fractionBits ∧ f.fractionBits ≤ 52
  lp : -1100 ≤ f.leastPlace ∧ f.leastPlace ≤ -149
  sw : f.infRung < f.signWeight
  ir : ∀ q : Nat, (q : Int) + f.leastPlace + f.fractionBits ≤ 65 → (q + 3) * f.binade ≤ f.infRung
theorem fmt_single : Fmt Ieee.single := by
  refine ⟨by decide, by decide, by decide, fun q hq => ?_⟩
  have e : Ieee.single.leastPlace = -149 := by decide
  have e2 : Ieee.single.fractionBits = 23 := rfl
  rw [e, e2] at hq
  have : q + 3 ≤ 255 := by omega
  exact Nat.mul_le_mul_right _ this
theorem fmt_double : Fmt Ieee.double := by
  refine ⟨by decide, by decide, by decide, fun q hq => ?_⟩
  have e : Ieee.double.leastPlace = -1074 := by decide
  have e2 : Ieee.double.fractionBits = 52 := rfl
  rw [e, e2] at hq
  have : q + 3 ≤ 2047 := by omega
  exact Nat.mul_le_mul_right _ this
theorem nearest_fin (f : Ieee.Format) (hf : Fmt f) (neg : Bool) (mag : Nat) (place : Int) (hp : -2200 ≤ place) (K : Nat) (hK : K ≤ 64) (hm : mag * 2 ^ (place + 2200).toNat < 2 ^ (K + 2200)) :
    ∃ (m : Nat) (d : Nat), f.read (f.nearest neg mag place) = .number neg m (f.leastPlace + d) ∧
      mag * 2 ^ (place + 2200).toNat ≤ m * 2 ^ (f.leastPlace + d + 2200).toNat + 2 ^ (2200 + K - f.fractionBits) ∧ m * 2 ^ (f.leastPlace + d + 2200).toNat ≤ mag * 2 ^ (place + 2200).toNat + 2 ^ (2200 + K - f.fractionBits) := by
  obtain ⟨fb1, fb2⟩ := hf.fb
  obtain ⟨lp1, lp2⟩ := hf.lp
  have hb : 0 < f.binade := Nat.two_pow_pos _
  by_cases h0 : mag = 0
  · subst h0
    have e : f.nearest neg 0 place = f.word neg (0 * f.binade + 0) := by simp [Ieee.Format.nearest]
    have hi : 0 * f.binade + 0 < f.infRung := by
      have := hf.ir 0 (by omega)
      have : 3 * f.binade ≤ f.infRung := by simpa using this
      omega
    obtain ⟨m, d, h1, h2⟩ := read_rung f neg 0 0 (by omega) (.inl rfl) hb hi hf.sw
    have hm0 : m = 0 := by
      rcases Nat.mul_eq_zero.1 (show m * 2 ^ d = 0 by rw [h2]) with h | h
      · exact h
      · have := Nat.two_pow_pos d; omega
    subst hm0
    exact ⟨0, d, by rw [e]; exact h1, by simp, by simp⟩
  have hl1 : 2 ^ mag.log2 ≤ mag := Nat.log2_self_le h0
  have hl2 : mag < 2 ^ (mag.log2 + 1) := Nat.lt_log2_self
  generalize hL : mag.log2 = L at *
  -- how great it is
  have hpl : place + (L : Int) < (K : Int) := by
    have : 2 ^ L * 2 ^ (place + 2200).toNat < 2 ^ (K + 2200) := Nat.lt_of_le_of_lt (Nat.mul_le_mul_right _ hl1) hm
    rw [← Nat.pow_add] at this
    have := (Nat.pow_lt_pow_iff_right (by omega : 1 < 2)).1 this
    omega
  generalize hlast : max (place + (L : Int) - (f.fractionBits : Int)) f.leastPlace = last at *
  generalize hq : (last - f.leastPlace).toNat = q at *
  generalize ha : (place - last).toNat = a at *
  generalize hd : (last - place).toNat = drop at *
  have hlast1 : f.leastPlace ≤ last := by omega
  have hlast2 : last ≤ (K : Int) - f.fractionBits := by omega
  have ec := even_cut neg (mag <<< a) drop
  have el := cut_low neg (mag <<< a) drop
  have en : f.nearest neg mag place = f.word neg (min (q * f.binade + Ieee.Toward.even.cut neg (mag <<< a) drop) f.infRung) := by
    unfold Ieee.Format.nearest
    rw [if_neg h0]
    simp only [hL, hlast, hq, ha, hd]
  generalize Ieee.Toward.even.cut neg (mag <<< a) drop = kept at *
  rw [Nat.shiftLeft_eq] at ec el
  -- kept has the digits of a significand
  have hn : mag * 2 ^ a < 2 ^ (f.fractionBits + 1) * 2 ^ drop := by
    rw [← Nat.pow_add]
    have : mag * 2 ^ a < 2 ^ (L + 1) * 2 ^ a := Nat.mul_lt_mul_of_pos_right hl2 (Nat.two_pow_pos _)
    rw [← Nat.pow_add] at this
    exact Nat.lt_of_lt_of_le this (Nat.pow_le_pow_right (by omega) (by omega))
  have hk : kept ≤ 2 * f.binade := by
    have e : 2 * f.binade = 2 ^ (f.fractionBits + 1) := by unfold Ieee.Format.binade; rw [Nat.pow_succ, Nat.mul_comm]
    rw [e]
    have h1 : kept * 2 ^ drop < (2 ^ (f.fractionBits + 1) + 1) * 2 ^ drop := by rw [Nat.add_mul, Nat.one_mul]; omega
    have := Nat.lt_of_mul_lt_mul_right h1
    omega
  have hqk : q = 0 ∨ f.binade ≤ kept := by
    by_cases c : q = 0
    · exact .inl c
    · refine .inr (Nat.le_trans ?_ el)
      rw [Nat.le_div_iff_mul_le (Nat.two_pow_pos _)]
      unfold Ieee.Format.binade
      rw [← Nat.pow_add]
      refine Nat.le_trans ?_ (Nat.mul_le_mul_right _ hl1)
      rw [← Nat.pow_add]
      exact Nat.pow_le_pow_right (by omega) (by omega)
  have hi : q * f.binade + kept < f.infRung := by
    have h1 := hf.ir q (by omega)
    have h2 : (q + 3) * f.binade = q * f.binade + 3 * f.binade := Nat.add_mul _ _ _
    omega
  obtain ⟨m, d, r1, r2⟩ := read_rung f neg q kept hk hqk hb hi hf.sw
  refine ⟨m, d, by rw [en, Nat.min_eq_left (by omega)]; exact r1, ?_⟩
  have em : m * 2 ^ (f.leastPlace + d + 2200).toNat = kept * 2 ^ (last + 2200).toNat := by
    have e1 : (f.leastPlace + d + 2200).toNat = d + (f.leastPlace + 2200).toNat := by omega
    have e2 : (last + 2200).toNat = q + (f.leastPlace + 2200).toNat := by omega
    rw [e1, e2, Nat.pow_add, ← Nat.mul_assoc, r2, Nat.pow_add, ← Nat.mul_assoc]
  rw [em]
  have hB : 2 ^ (last + 2200).toNat ≤ 2 ^ (2200 + K - f.fractionBits) := Nat.pow_le_pow_right (by omega) (by omega)
  obtain ⟨s, s1, s2⟩ : ∃ s, (place + 2200).toNat = a + s ∧ (last + 2200).toNat = drop + s := ⟨(min place last + 2200).toNat, by omega, by omega⟩
  rw [s2] at hB
  rw [s1, s2]
  have e3 : mag * 2 ^ (a + s) = mag * 2 ^ a * 2 ^ s := by rw [Nat.pow_add, Nat.mul_assoc]
  have e4 : kept * 2 ^ (drop + s) = kept * 2 ^ drop * 2 ^ s := by rw [Nat.pow_add, Nat.mul_assoc]
  have e5 : 2 ^ (drop + s) = 2 ^ drop * 2 ^ s := Nat.pow_add _ _ _
  rw [e3, e4]
  have x1 := Nat.mul_le_mul_right (2 ^ s) ec.1
  have x2 := Nat.mul_le_mul_right (2 ^ s) ec.2
  rw [Nat.add_mul] at x1 x2
  rw [e5] at hB
  exact ⟨by omega, by omega⟩
/-- A number written: what it comes to lies within 2^(K - fb) of what was meant, where that is below 2^K. -/
theorem write_fin (f : Ieee.Format) (hf : Fmt f) (neg : Bool) (mag : Nat) (place : Int) (hp : -2200 ≤ place) (K : Nat) (hK : K ≤ 64) (hm : (Ieee.signed neg mag (place + 2200).toNat).natAbs < 2 ^ (K + 2200)) :
    ∃ v, FinW f (f.nearest neg mag place) v ∧ v - Ieee.signed neg mag (place + 2200).toNat ≤ 2 ^ (2200 + K - f.fractionBits) ∧ Ieee.signed neg mag (place + 2200).toNat - v ≤ 2 ^ (2200 + K - f.fractionBits) := by
  rw [signed_abs] at hm
  obtain ⟨m, d, r, b1, b2⟩ := nearest_fin f hf neg mag place hp K hK hm
  have lp := hf.lp
  refine ⟨_, ⟨neg, m, _, r, by omega, rfl⟩, ?_⟩
  have hc : ((2 ^ (2200 + K - f.fractionBits) : Nat) : Int) = 2 ^ (2200 + K - f.fractionBits) := by rw [Int.natCast_pow]; rfl
  rw [← hc]
  cases neg
  · rw [signed_pos, signed_pos]; omega
  · rw [signed_neg, signed_neg]; omega
theorem signed_shift (s : Bool) (m u d : Nat) : Ieee.signed s m (u + d) = Ieee.signed s m u * 2 ^ d := by
  have hc : ((2 ^ d : Nat) : Int) = 2 ^ d := by rw [Int.natCast_pow]; rfl
  have e : m * 2 ^ (u + d) = m * 2 ^ u * 2 ^ d := by rw [Nat.pow_add, Nat.mul_assoc]
  cases s
  · rw [signed_pos, signed_pos, e, Int.natCast_mul, hc]
  · rw [signed_neg, signed_neg, e, Int.natCast_mul, hc, Int.neg_mul]
/-- Two finite data's sum, written. -/
theorem sum_write (f : Ieee.Format) (hf : Fmt f) (s : Bool) (m : Nat) (i : Int) (t : Bool) (n : Nat) (j : Int) (ei : -1100 ≤ i) (ej : -1100 ≤ j) (K : Nat) (hK : K ≤ 64) (h : (Ieee.signed s m (i + 2200).toNat + Ieee.signed t n (j + 2200).toNat).natAbs < 2 ^ (K + 2200)) :
    ∃ r u, ((Ieee.Datum.number s m i).sum (.number t n j)).map f.write = some r ∧ FinW f r u ∧ u - (Ieee.signed s m (i + 2200).toNat + Ieee.signed t n (j + 2200).toNat) ≤ 2 ^ (2200 + K - f.fractionBits) ∧ (Ieee.signed s m (i + 2200).toNat + Ieee.signed t n (j + 2200).toNat) - u ≤ 2 ^ (2200 + K - f.fractionBits) := by
  have key : ∀ g : Bool, (∀ b : Bool, (if (Ieee.signed s m (i - min i j).toNat + Ieee.signed t n (j - min i j).toNat) = 0 then g else decide ((Ieee.signed s m (i - min i j).toNat + Ieee.signed t n (j - min i j).toNat) < 0)) = b → Ieee.signed b (Ieee.signed s m (i - min i j).toNat + Ieee.signed t n (j - min i j).toNat).natAbs (min i j + 2200).toNat = Ieee.signed s m (i + 2200).toNat + Ieee.signed t n (j + 2200).toNat) := by
    intro g b hb
    have e1 : Ieee.signed s m (i + 2200).toNat = Ieee.signed s m (i - min i j).toNat * 2 ^ (min i j + 2200).toNat := by rw [← signed_shift]; congr 1; omega
    have e2 : Ieee.signed t n (j + 2200).toNat = Ieee.signed t n (j - min i j).toNat * 2 ^ (min i j + 2200).toNat := by rw [← signed_shift]; congr 1; omega
    rw [e1, e2, ← Int.add_mul]
    generalize Ieee.signed s m (i - min i j).toNat + Ieee.signed t n (j - min i j).toNat = T at *
    generalize (min i j + 2200).toNat = D
    have hc : ((2 ^ D : Nat) : Int) = 2 ^ D := by rw [Int.natCast_pow]; rfl
    by_cases c0 : T = 0
    · subst c0
      cases b
      · rw [signed_pos]; simp
      · rw [signed_neg]; simp
    · rw [if_neg c0] at hb
      by_cases c1 : T < 0
      · rw [decide_eq_true c1] at hb
        subst hb
        rw [signed_neg, Int.natCast_mul, hc, ← Int.neg_mul]
        congr 1; omega
      · rw [decide_eq_false c1] at hb
        subst hb
        rw [signed_pos, Int.natCast_mul, hc]
        congr 1; omega
  have ea : ((Ieee.Datum.number s m i).sum (.number t n j)).map f.write = some (f.write (.number (if (Ieee.signed s m (i - min i j).toNat + Ieee.signed t n (j - min i j).toNat) = 0 then s && t else decide ((Ieee.signed s m (i - min i j).toNat + Ieee.signed t n (j - min i j).toNat) < 0)) (Ieee.signed s m (i - min i j).toNat + Ieee.signed t n (j - min i j).toNat).natAbs (min i j))) := by
    simp only [Ieee.Datum.sum, Option.map_some]
  have hsum := key (s && t) _ rfl
  obtain ⟨u, hu, b1, b2⟩ := write_fin f hf _ _ (min i j) (by omega) K hK (by rw [hsum]; exact h)
  rw [hsum] at b1 b2
  exact ⟨_, u, ea, hu, b1, b2⟩
theorem add_fin (f : Ieee.Format) (hf : Fmt f) {x y : Nat} {v w : Int} (hx : FinW f x v) (hy : FinW f y w) (K : Nat) (hK : K ≤ 64) (h : (v + w).natAbs < 2 ^ (K + 2200)) :
    ∃ r u, f.add x y = some r ∧ FinW f r u ∧ u - (v + w) ≤ 2 ^ (2200 + K - f.fractionBits) ∧ (v + w) - u ≤ 2 ^ (2200 + K - f.fractionBits) := by
  obtain ⟨s, m, i, rx, ei, rfl⟩ := hx
  obtain ⟨t, n, j, ry, ej, rfl⟩ := hy
  unfold Ieee.Format.add
  rw [rx, ry]
  exact sum_write f hf s m i t n j ei ej K hK h
theorem signed_not (t : Bool) (n u : Nat) : Ieee.signed (!t) n u = -Ieee.signed t n u := by
  cases t
  · show Ieee.signed true n u = _; rw [signed_neg, signed_pos]
  · show Ieee.signed false n u = _; rw [signed_neg, signed_pos, Int.neg_neg]
theorem sub_fin (f : Ieee.Format) (hf : Fmt f) {x y : Nat} {v w : Int} (hx : FinW f x v) (hy : FinW f y w) (K : Nat) (hK : K ≤ 64) (h : (v - w).natAbs < 2 ^ (K + 2200)) :
    ∃ r u, f.sub x y = some r ∧ FinW f r u ∧ u - (v - w) ≤ 2 ^ (2200 + K - f.fractionBits) ∧ (v - w) - u ≤ 2 ^ (2200 + K - f.fractionBits) := by
  obtain ⟨s, m, i, rx, ei, rfl⟩ := hx
  obtain ⟨t, n, j, ry, ej, rfl⟩ := hy
  unfold Ieee.Format.sub
  rw [rx, ry]
  have := sum_write f hf s m i (!t) n j ei ej K hK (by rw [signed_not, ← Int.sub_eq_add_neg]; exact h)
  rw [signed_not, ← Int.sub_eq_add_neg] at this
  exact this
theorem mul_fin (f : Ieee.Format) (hf : Fmt f) {x y : Nat} {v w : Int} (hx : FinW f x v) (hy : FinW f y w) (K : Nat) (hK : K ≤ 64) (h : (v * w).natAbs < 2 ^ (K + 2200) * 2 ^ 2200) :
    ∃ r u z, f.mul x y = some r ∧ FinW f r u ∧ z * 2 ^ 2200 = v * w ∧ u - z ≤ 2 ^ (2200 + K - f.fractionBits) ∧ z - u ≤ 2 ^ (2200 + K - f.fractionBits) := by
  obtain ⟨s, m, i, rx, ei, rfl⟩ := hx
  obtain ⟨t, n, j, ry, ej, rfl⟩ := hy
  have hz : Ieee.signed (s ^^ t) (m * n) (i + j + 2200).toNat * 2 ^ 2200 = Ieee.signed s m (i + 2200).toNat * Ieee.signed t n (j + 2200).toNat := by
    rw [← signed_shift]
    have e : (i + j + 2200).toNat + 2200 = (i + 2200).toNat + (j + 2200).toNat := by omega
    have e2 : m * n * 2 ^ ((i + 2200).toNat + (j + 2200).toNat) = m * 2 ^ (i + 2200).toNat * (n * 2 ^ (j + 2200).toNat) := by
      rw [Nat.pow_add, Nat.mul_assoc, Nat.mul_assoc, Nat.mul_left_comm n]
    rw [e]
    cases s <;> cases t
    · show Ieee.signed false _ _ = _; rw [signed_pos, signed_pos, signed_pos, e2, Int.natCast_mul]
    · show Ieee.signed true _ _ = _; rw [signed_neg, signed_pos, signed_neg, e2, Int.natCast_mul, Int.mul_neg]
    · show Ieee.signed true _ _ = _; rw [signed_neg, signed_neg, signed_pos, e2, Int.natCast_mul, Int.neg_mul]
    · show Ieee.signed false _ _ = _; rw [signed_pos, signed_neg, signed_neg, e2, Int.natCast_mul, Int.neg_mul_neg]
  have em : f.mul x y = some (f.nearest (s ^^ t) (m * n) (i + j)) := by
    unfold Ieee.Format.mul
    rw [rx, ry]; rfl
  obtain ⟨u, hu, b1, b2⟩ := write_fin f hf (s ^^ t) (m * n) (i + j) (by omega) K hK (by
    rw [← hz, Int.natAbs_mul] at h
    have e : ((2 : Int) ^ 2200).natAbs = 2 ^ 2200 := Int.natAbs_pow 2 2200
    rw [e] at h
    exact Nat.lt_of_mul_lt_mul_right h)
  exact ⟨_, u, _, em, hu, hz, b1, b2⟩
theorem read_place (f : Ieee.Format) {x : Nat} {s : Bool} {m : Nat} {e : Int} (h : f.read x = .number s m e) : f.leastPlace ≤ e := by
  unfold Ieee.Format.read at h
  simp only at h
  split at h
  · cases h; omega
  · split at h
    · cases h; omega
    · split at h <;> cases h
theorem FinW.of (f : Ieee.Format) (hf : Fmt f) {x : Nat} {s : Bool} {m : Nat} {e : Int} (h : f.read x = .number s m e) : FinW f x (Ieee.signed s m (e + 2200).toNat) := by
  have := read_place f h; have := hf.lp
  exact ⟨s, m, e, h, by omega, rfl⟩
theorem order_fin (f : Ieee.Format) {x y : Nat} {v w : Int} (hx : FinW f x v) (hy : FinW f y w) : f.order x y = some (compare v w) := by
  obtain ⟨s, m, i, rx, ei, rfl⟩ := hx
  obtain ⟨t, n, j, ry, ej, rfl⟩ := hy
  unfold Ieee.Format.order
  rw [rx, ry]
  simp only [Ieee.Datum.order]
  have e1 : Ieee.signed s m (i + 2200).toNat = Ieee.signed s m (i - min i j).toNat * 2 ^ (min i j + 2200).toNat := by rw [← signed_shift]; congr 1; omega
  have e2 : Ieee.signed t n (j + 2200).toNat = Ieee.signed t n (j - min i j).toNat * 2 ^ (min i j + 2200).toNat := by rw [← signed_shift]; congr 1; omega
  rw [e1, e2]
  generalize Ieee.signed s m (i - min i j).toNat = A
  generalize Ieee.signed t n (j - min i j).toNat = B
  have hp : (0 : Int) < 2 ^ (min i j + 2200).toNat := Int.pow_pos (by omega)
  generalize (2 : Int) ^ (min i j + 2200).toNat = P at *
  congr 1
  rcases Int.lt_trichotomy A B with h | h | h
  · rw [Int.compare_eq_lt.2 h, Int.compare_eq_lt.2 (Int.mul_lt_mul_of_pos_right h hp)]
  · subst h; rw [Int.compare_eq_eq.2 rfl, Int.compare_eq_eq.2 rfl]
  · rw [Int.compare_eq_gt.2 h, Int.compare_eq_gt.2 (Int.mul_lt_mul_of_pos_right h hp)]

/-! ### The words of the walk, over finite floats -/
theorem fmt_of (k : FloatKind) : Fmt k.format := by
  cases k
  · exact fmt_single
  · exact fmt_double
abbrev FinF (k : FloatKind) (x : Nat) (v : Int) : Prop := FinW k.format x v
theorem f_add {k : FloatKind} {x y : Nat} {v w : Int} (hx : FinF k x v) (hy : FinF k y w) (K : Nat) (hK : K ≤ 64) (h : (v + w).natAbs < 2 ^ (K + 2200)) :
    fOk .add k x y = true ∧ ∃ u, FinF k (fOf .add k x y) u ∧ u - (v + w) ≤ 2 ^ (2200 + K - k.format.fractionBits) ∧ (v + w) - u ≤ 2 ^ (2200 + K - k.format.fractionBits) := by
  obtain ⟨r, u, e, hu, b⟩ := add_fin k.format (fmt_of k) hx hy K hK h
  unfold fOk fOf fBits
  simp only [e, Option.isSome_some, Option.getD_some]
  exact ⟨trivial, u, hu, b⟩
theorem f_sub {k : FloatKind} {x y : Nat} {v w : Int} (hx : FinF k x v) (hy : FinF k y w) (K : Nat) (hK : K ≤ 64) (h : (v - w).natAbs < 2 ^ (K + 2200)) :
    fOk .sub k x y = true ∧ ∃ u, FinF k (fOf .sub k x y) u ∧ u - (v - w) ≤ 2 ^ (2200 + K - k.format.fractionBits) ∧ (v - w) - u ≤ 2 ^ (2200 + K - k.format.fractionBits) := by
  obtain ⟨r, u, e, hu, b⟩ := sub_fin k.format (fmt_of k) hx hy K hK h
  unfold fOk fOf fBits
  simp only [e, Option.isSome_some, Option.getD_some]
  exact ⟨trivial, u, hu, b⟩
theorem f_mul {k : FloatKind} {x y : Nat} {v w : Int} (hx : FinF k x v) (hy : FinF k y w) (K : Nat) (hK : K ≤ 64) (h : (v * w).natAbs < 2 ^ (K + 2200) * 2 ^ 2200) :
    fOk .mul k x y = true ∧ ∃ u z, FinF k (fOf .mul k x y) u ∧ z * 2 ^ 2200 = v * w ∧ u - z ≤ 2 ^ (2200 + K - k.format.fractionBits) ∧ z - u ≤ 2 ^ (2200 + K - k.format.fractionBits) := by
  obtain ⟨r, u, z, e, hu, hz, b⟩ := mul_fin k.format (fmt_of k) hx hy K hK h
  unfold fOk fOf fBits
  simp only [e, Option.isSome_some, Option.getD_some]
  exact ⟨trivial, u, z, hu, hz, b⟩
theorem f_conv {s k : FloatKind} (hne : s ≠ k) {x : Nat} {v : Int} (hx : FinF s x v) (K : Nat) (hK : K ≤ 64) (h : v.natAbs < 2 ^ (K + 2200)) :
    fCok s x k = true ∧ ∃ u, FinF k (fConv s x k) u ∧ u - v ≤ 2 ^ (2200 + K - k.format.fractionBits) ∧ v - u ≤ 2 ^ (2200 + K - k.format.fractionBits) := by
  obtain ⟨g, m, e, r, he, rfl⟩ := hx
  obtain ⟨u, hu, b⟩ := write_fin k.format (fmt_of k) g m e (by omega) K hK h
  have hni : (k.decode (k.encode (.number g m e))).isInfinity = false := by
    obtain ⟨g', m', e', r', _, _⟩ := hu
    have : k.decode (k.encode (.number g m e)) = .number g' m' e' := r'
    rw [this]; rfl
  have hc : fCbits s x k = some (k.encode (.number g m e)) := by
    unfold fCbits
    rw [if_neg hne]
    have : s.decode x = .number g m e := r
    rw [this]
    simp only [hni, Bool.false_eq_true, if_false]
  unfold fCok fConv
  rw [hc]
  exact ⟨rfl, u, hu, b⟩
theorem f_ne_self {k : FloatKind} {x : Nat} {v : Int} (hx : FinF k x v) : fNe k x x = false := by
  unfold fNe; rw [order_fin k.format hx hx, Int.compare_eq_eq.2 rfl]; rfl
theorem f_ge {k : FloatKind} {x y : Nat} {v w : Int} (hx : FinF k x v) (hy : FinF k y w) : fGe k x y = true → w ≤ v := by
  unfold fGe; rw [order_fin k.format hx hy]
  intro h
  rcases Int.lt_trichotomy v w with c | c | c
  · rw [Int.compare_eq_lt.2 c] at h; cases h
  · omega
  · omega
theorem f_le {k : FloatKind} {x y : Nat} {v w : Int} (hx : FinF k x v) (hy : FinF k y w) : fLe k x y = true → v ≤ w := by
  unfold fLe; rw [order_fin k.format hx hy]
  intro h
  rcases Int.lt_trichotomy v w with c | c | c
  · omega
  · omega
  · rw [Int.compare_eq_gt.2 c] at h; cases h
/-- What lies between two finite floats is one. -/
theorem f_within {k : FloatKind} {x lo hi : Nat} {a b : Int} (ha : FinF k lo a) (hb : FinF k hi b) (h1 : fGe k x lo = true) (h2 : fLe k x hi = true) : ∃ v, FinF k x v ∧ a ≤ v ∧ v ≤ b := by
  cases hr : k.format.read x with
  | number s m e =>
    have hx := FinW.of k.format (fmt_of k) hr
    exact ⟨_, hx, f_ge hx ha h1, f_le hx hb h2⟩
  | nan s q =>
    exfalso
    unfold fGe at h1
    have : k.format.order x lo = none := by unfold Ieee.Format.order; rw [hr]; cases k.format.read lo <;> rfl
    rw [this] at h1; cases h1
  | infinity s =>
    exfalso
    obtain ⟨t, m, e, r, _, _⟩ := ha
    obtain ⟨t', m', e', r', _, _⟩ := hb
    have o1 : k.format.order x lo = some (if s then .lt else .gt) := by unfold Ieee.Format.order; rw [hr, r]; rfl
    have o2 : k.format.order x hi = some (if s then .lt else .gt) := by unfold Ieee.Format.order; rw [hr, r']; rfl
    unfold fGe at h1
    unfold fLe at h2
    rw [o1] at h1
    rw [o2] at h2
    cases s
    · cases h2
    · cases h1
theorem f_int {k : FloatKind} (n : Int) (h : n.natAbs < 2 ^ 64) : ∃ v, FinF k (fInt k n) v := by
  obtain ⟨u, hu, _⟩ := write_fin k.format (fmt_of k) (n < 0) n.natAbs 0 (by omega) 64 (by omega) (by
    rw [signed_abs]
    have : (0 + 2200 : Int).toNat = 2200 := rfl
    rw [this, Nat.pow_add 2 64 2200]
    exact Nat.mul_lt_mul_of_pos_right h (Nat.two_pow_pos _))
  exact ⟨u, hu⟩

theorem one_read : Ieee.double.read 4607182418800017408 = .number false 4503599627370496 (-52) := by decide
theorem zero_read : Ieee.double.read 0 = .number false 0 (-1074) := by decide
/-- A float is the same float. -/
theorem same_self (k a : Nat) : laws_sameFloat.f (k + 1) a a = some true := by
  unfold laws_sameFloat.f
  cases hn : fNe .f64 a a with
  | true =>
    rw [if_pos rfl]
    simp only [laws_sameFloat.j0, if_true, hn]
  | false =>
    rw [if_neg (by simp)]
    simp only [laws_sameFloat.j0, Bool.false_eq_true, if_false]
    have heq : fEq .f64 a a = true := by
      unfold fNe at hn; unfold fEq
      simpa using hn
    cases hz : fEq .f64 a 0 with
    | false => rw [if_neg (by simp), heq]
    | true =>
      have hq : fOk .quo .f64 4607182418800017408 a = true := by
        unfold fEq at hz
        have hz : FloatKind.f64.format.order a 0 = some .eq := by simpa using hz
        have hz : Ieee.double.order a 0 = some .eq := hz
        unfold Ieee.Format.order at hz
        rw [zero_read] at hz
        unfold fOk fBits
        show (Ieee.double.div 4607182418800017408 a).isSome = true
        unfold Ieee.Format.div
        rw [one_read]
        revert hz
        cases Ieee.double.read a with
        | nan s q => intro hz; cases hz
        | infinity s => intro hz; cases s <;> cases hz
        | number s m e =>
          intro hz
          simp only [Ieee.Datum.order, Option.some.injEq, Int.compare_eq_eq] at hz
          have hm : m = 0 := by
            have h1 := congrArg Int.natAbs hz
            rw [signed_abs, signed_abs, Nat.zero_mul] at h1
            rcases Nat.mul_eq_zero.1 h1 with h | h
            · exact h
            · have := Nat.two_pow_pos (e - min e (-1074)).toNat; omega
          subst hm
          rfl
      rw [if_pos rfl, if_pos rfl, if_pos hq, if_pos hq]
      simp

theorem copy_f64 (l : List Nat) (h : l.length ≤ 1048576) : Ev (fun k => laws_toFloat64S.f k l) l := by
  have := copy_loop laws_toFloat64S.l0 (fun x : Nat => x) (0 : Nat) (fun k x0 x3 i h1 h2 => by
    rw [laws_toFloat64S.l0, if_pos (by omega), if_pos (by omega), if_pos (by omega)]
    rfl) (fun k x0 x3 => by rw [laws_toFloat64S.l0, if_neg (by omega)]) l (by omega) (List.replicate l.length (0 : Nat)) (by simp)
  unfold laws_toFloat64S.f
  simp only [show (0 : Int) ≤ (l.length : Int) from by omega, if_true, Int.toNat_natCast, show l.length ≤ 35184372088832 from by omega]
  simpa using this
theorem ev_same (a : Nat) : Ev (fun k => laws_sameFloat.f k a a) true := ev_some fun k => same_self k a
theorem same_f64 (l : List Nat) (h : l.length ≤ 1048576) : Ev (fun k => laws_eqFloat64S.f k l l) true := by
  unfold laws_eqFloat64S.f
  simp only [if_true]
  exact ev_steps (r := true) (fun i k => laws_eqFloat64S.l0 k l l (i : Int)) l.length (fun i hi hn => by
    refine ev_one (f := fun k => (laws_sameFloat.f k (rdOf (0 : Nat) l (i : Int)) (rdOf (0 : Nat) l (i : Int))).bind fun t143 => (if t143 = true then (laws_eqFloat64S.l0 k l l ((i + 1 : Nat) : Int)) else (some false))) (fun k => by
      show laws_eqFloat64S.l0 (k + 1) l l (i : Int) = _
      rw [laws_eqFloat64S.l0, if_pos (by omega), if_pos (by omega), if_pos (by omega), wr_succ i (by omega)]) ?_
    refine Ev.bind (ev_same _) ?_
    simp only [if_true]; exact hn) (ev_some fun k => by
    show laws_eqFloat64S.l0 (k + 1) l l (l.length : Int) = _
    rw [laws_eqFloat64S.l0, if_neg (by omega)])
theorem mark_f64 (n : Nat) (hn : n ≤ 1048576) : ∀ (m i : Nat) (x : List Nat), i + m = n → x.length = n → ∃ x', Ev (fun k => laws_markFloat64S.l0 k x (1 + (i : Int)) (i : Int)) (1 + (n : Int), x') := by
  intro m
  induction m with
  | zero =>
    intro i x hi hx
    obtain rfl : i = n := by omega
    exact ⟨x, ev_some fun k => by rw [laws_markFloat64S.l0, if_neg (by omega)]⟩
  | succ m ih =>
    intro i x hi hx
    obtain ⟨x', h⟩ := ih (i + 1) (x.set i (fInt .f64 (1 + (i : Int)))) (by omega) (by simpa using hx)
    refine ⟨x', ev_one (fun k => ?_) h⟩
    rw [laws_markFloat64S.l0, if_pos (by omega), if_pos (by omega), Int.toNat_natCast, wr (n := 1 + (i : Int) + 1) (by omega) (by omega), wr_succ i (by omega), show 1 + (i : Int) + 1 = 1 + ((i + 1 : Nat) : Int) by omega]

/-! ### Spectrum -/
def TW : List S40 := [(⟨4607182418800017408, 0⟩ : S40), (⟨4604544271217802189, 13827916308072577997⟩ : S40), (⟨0, 13830554455654793216⟩ : S40), (⟨13827916308072577997, 13827916308072577997⟩ : S40), (⟨13830554455654793216, 0⟩ : S40), (⟨13827916308072577997, 4604544271217802189⟩ : S40), (⟨0, 4607182418800017408⟩ : S40), (⟨4604544271217802189, 4604544271217802189⟩ : S40)]
theorem neg_h : Op.negFloat .f64 4604544271217802189 = 13827916308072577997 := by decide
/-- A finite float of at most 1. -/
def Unit1 (x : Nat) : Prop := ∃ v, FinF .f64 x v ∧ v ≤ 2 ^ 2200 ∧ -(2 ^ 2200) ≤ v
theorem u_one : Unit1 4607182418800017408 := ⟨_, ⟨false, 4503599627370496, -52, by decide, by decide, rfl⟩, by decide, by decide⟩
theorem u_h : Unit1 4604544271217802189 := ⟨_, ⟨false, 6369051672525773, -53, by decide, by decide, rfl⟩, by decide, by decide⟩
theorem u_mh : Unit1 13827916308072577997 := ⟨_, ⟨true, 6369051672525773, -53, by decide, by decide, rfl⟩, by decide, by decide⟩
theorem u_m1 : Unit1 13830554455654793216 := ⟨_, ⟨true, 4503599627370496, -52, by decide, by decide, rfl⟩, by decide, by decide⟩
theorem u_zero : Unit1 0 := ⟨_, ⟨false, 0, -1074, by decide, by decide, rfl⟩, by decide, by decide⟩
theorem tw_unit (i : Nat) (h : i < 8) : Unit1 (rd_T40 TW (i : Int)).f0 ∧ Unit1 (rd_T40 TW (i : Int)).f1 := by
  match i, h with
  | 0, _ => exact ⟨u_one, u_zero⟩
  | 1, _ => exact ⟨u_h, u_mh⟩
  | 2, _ => exact ⟨u_zero, u_m1⟩
  | 3, _ => exact ⟨u_mh, u_mh⟩
  | 4, _ => exact ⟨u_m1, u_zero⟩
  | 5, _ => exact ⟨u_mh, u_h⟩
  | 6, _ => exact ⟨u_zero, u_one⟩
  | 7, _ => exact ⟨u_h, u_h⟩
def twAt (k j : Nat) : S40 := rd_T40 TW (((j * k) % 8 : Nat) : Int)
def sumS (l : List Nat) (k : Nat) : Nat → S40
  | 0 => ⟨0, 0⟩
  | j + 1 => ⟨fOf .add .f64 (sumS l k j).f0 (fOf .mul .f64 (rdOf (0 : Nat) l (j : Int)) (twAt k j).f0), fOf .add .f64 (sumS l k j).f1 (fOf .mul .f64 (rdOf (0 : Nat) l (j : Int)) (twAt k j).f1)⟩
def outS (l : List Nat) : List S40 := (List.range 8).map fun k => sumS l k 8
def inOK (l : List Nat) : Prop := ∀ i, i < l.length → fGe .f64 (rdOf (0 : Nat) l (i : Int)) 13920209183539462144 = true ∧ fLe .f64 (rdOf (0 : Nat) l (i : Int)) 4696837146684686336 = true
instance (l : List Nat) : Decidable (inOK l) := by unfold inOK; exact inferInstance
theorem lit_lo : FinF .f64 13920209183539462144 (-(1000000 * 2 ^ 2200)) := ⟨true, 8589934592000000, -33, by decide, by decide, by decide⟩
theorem lit_hi : FinF .f64 4696837146684686336 (1000000 * 2 ^ 2200) := ⟨false, 8589934592000000, -33, by decide, by decide, by decide⟩
def Sm (x : Nat) (B : Int) : Prop := ∃ v, FinF .f64 x v ∧ v ≤ B * 2 ^ 2200 ∧ -(B * 2 ^ 2200) ≤ v
theorem sm_mul {x t : Nat} (hx : Sm x 1000000) (ht : Unit1 t) : fOk .mul .f64 x t = true ∧ Sm (fOf .mul .f64 x t) 1000001 := by
  obtain ⟨v, hv, v0, v1⟩ := hx
  obtain ⟨w, hw, w0, w1⟩ := ht
  have fb : FloatKind.f64.format.fractionBits = 52 := rfl
  have eK : ((2 ^ (22 + 2200) : Nat) : Int) = 4194304 * 2 ^ 2200 := by decide
  have hU : (0 : Int) < 2 ^ 2200 := Int.pow_pos (by omega)
  have he : (2 : Int) ^ (2200 + 22 - 52) ≤ 2 ^ 2200 := by decide
  have hvn : v.natAbs < 2 ^ (22 + 2200) := by omega
  have hwn : w.natAbs ≤ 2 ^ 2200 := by
    have : ((2 ^ 2200 : Nat) : Int) = 2 ^ 2200 := by rw [Int.natCast_pow]; rfl
    omega
  obtain ⟨a, u, z, b, c, d1, d2⟩ := f_mul hv hw 22 (by omega) (by
    rw [Int.natAbs_mul]
    exact Nat.lt_of_le_of_lt (Nat.mul_le_mul_left _ hwn) (Nat.mul_lt_mul_of_pos_right hvn (Nat.two_pow_pos _)))
  rw [fb] at d1 d2
  refine ⟨a, u, b, ?_⟩
  have hz : z ≤ 1000000 * 2 ^ 2200 ∧ -(1000000 * 2 ^ 2200) ≤ z := by
    generalize (2 : Int) ^ 2200 = U at *
    have hzn : z.natAbs * U.natAbs = v.natAbs * w.natAbs := by rw [← Int.natAbs_mul, c, Int.natAbs_mul]
    have h1 : v.natAbs * w.natAbs ≤ (1000000 * U).natAbs * U.natAbs := Nat.mul_le_mul (by omega) (by omega)
    rw [← hzn] at h1
    have h2 := Nat.le_of_mul_le_mul_right h1 (by omega)
    omega
  omega
theorem sm_add {x y : Nat} {B : Int} (hB : 0 ≤ B ∧ B ≤ 8000100) (hx : Sm x B) (hy : Sm y 1000001) : fOk .add .f64 x y = true ∧ Sm (fOf .add .f64 x y) (B + 1000002) := by
  obtain ⟨v, hv, v0, v1⟩ := hx
  obtain ⟨w, hw, w0, w1⟩ := hy
  have fb : FloatKind.f64.format.fractionBits = 52 := rfl
  have eK : ((2 ^ (24 + 2200) : Nat) : Int) = 16777216 * 2 ^ 2200 := by decide
  have hU : (0 : Int) < 2 ^ 2200 := Int.pow_pos (by omega)
  have he : (2 : Int) ^ (2200 + 24 - 52) ≤ 2 ^ 2200 := by decide
  have hb1 : B * 2 ^ 2200 ≤ 8000100 * 2 ^ 2200 := Int.mul_le_mul_of_nonneg_right hB.2 (Int.le_of_lt hU)
  have hb2 : (B + 1000002) * 2 ^ 2200 = B * 2 ^ 2200 + 1000002 * 2 ^ 2200 := Int.add_mul _ _ _
  obtain ⟨a, u, b, d1, d2⟩ := f_add hv hw 24 (by omega) (by omega)
  rw [fb] at d1 d2
  refine ⟨a, u, b, ?_⟩
  omega
/-- Each operation of the sums is sound. -/
structure SndS (l : List Nat) (k j : Nat) : Prop where
  m0 : fOk .mul .f64 (rdOf (0 : Nat) l (j : Int)) (twAt k j).f0 = true
  m1 : fOk .mul .f64 (rdOf (0 : Nat) l (j : Int)) (twAt k j).f1 = true
  a0 : fOk .add .f64 (sumS l k j).f0 (fOf .mul .f64 (rdOf (0 : Nat) l (j : Int)) (twAt k j).f0) = true
  a1 : fOk .add .f64 (sumS l k j).f1 (fOf .mul .f64 (rdOf (0 : Nat) l (j : Int)) (twAt k j).f1) = true
theorem sum_sound (l : List Nat) (hl : l.length = 8) (hx : inOK l) (k : Nat) : ∀ j, j ≤ 8 → (Sm (sumS l k j).f0 (1000002 * (j : Int)) ∧ Sm (sumS l k j).f1 (1000002 * (j : Int))) ∧ ∀ i, i < j → SndS l k i := by
  intro j
  induction j with
  | zero =>
    intro _
    have z : Sm 0 (1000002 * ((0 : Nat) : Int)) := ⟨0, ⟨false, 0, -1074, by decide, by decide, by decide⟩, by simp, by simp⟩
    exact ⟨⟨z, z⟩, fun i h => by omega⟩
  | succ j ih =>
    intro hj
    obtain ⟨⟨s0, s1⟩, all⟩ := ih (by omega)
    obtain ⟨w1, w2⟩ := hx j (by omega)
    obtain ⟨x, hxv, x0, x1⟩ := f_within lit_lo lit_hi w1 w2
    have hxs : Sm (rdOf (0 : Nat) l (j : Int)) 1000000 := ⟨x, hxv, by omega, by omega⟩
    obtain ⟨t0, t1⟩ := tw_unit ((j * k) % 8) (Nat.mod_lt _ (by omega))
    obtain ⟨p0, q0⟩ := sm_mul hxs t0
    obtain ⟨p1, q1⟩ := sm_mul hxs t1
    obtain ⟨r0, u0⟩ := sm_add (by omega) s0 q0
    obtain ⟨r1, u1⟩ := sm_add (by omega) s1 q1
    have e : 1000002 * (j : Int) + 1000002 = 1000002 * ((j + 1 : Nat) : Int) := by omega
    rw [e] at u0 u1
    refine ⟨⟨u0, u1⟩, fun i hi => ?_⟩
    by_cases c : i = j
    · subst c; exact ⟨p0, p1, r0, r1⟩
    · exact all i (by omega)
def specM (l : List Nat) : List S40 × Int :=
  if l.length > 4096 then ([], 2) else if l.length = 8 ∧ inOK l then (outS l, 0) else ([], 1)
theorem specM_in (l : List Nat) (h1 : l.length = 8) : specM l = if ∀ i, i < l.length → (fGe .f64 (rdOf (0 : Nat) l (i : Int)) 13920209183539462144 && fLe .f64 (rdOf (0 : Nat) l (i : Int)) 4696837146684686336) = true then (outS l, 0) else ([], 1) := by
  unfold specM
  rw [if_neg (by omega)]
  by_cases h : inOK l
  · rw [if_pos ⟨h1, h⟩, if_pos]
    intro i hi; rw [(h i hi).1, (h i hi).2]; rfl
  · rw [if_neg (fun g => h g.2), if_neg]
    intro g
    exact h fun i hi => by simpa using g i hi
theorem within_impl (x : Nat) : impl_within1.f x 13920209183539462144 4696837146684686336 = some (fGe .f64 x 13920209183539462144 && fLe .f64 x 4696837146684686336) := by
  unfold impl_within1.f
  cases fGe .f64 x 13920209183539462144 <;> simp
theorem within_spec (x : Nat) : spec_l18Within.f x 13920209183539462144 4696837146684686336 = some (fGe .f64 x 13920209183539462144 && fLe .f64 x 4696837146684686336) := by
  unfold spec_l18Within.f
  cases fGe .f64 x 13920209183539462144 <;> simp
theorem set_map_range {β : Type} (n i : Nat) (hi : i < n) (f : Nat → β) (b : β) : ((List.range n).map f).set i b = (List.range n).map fun j => if j = i then b else f j := by
  apply List.ext_getElem (by simp)
  intro j h1 h2
  simp only [List.getElem_set, List.getElem_map, List.getElem_range]
  by_cases e : i = j
  · rw [if_pos e, if_pos e.symm]
  · rw [if_neg e, if_neg (fun h => e h.symm)]
theorem rd_map_range (n i : Nat) (hi : i < n) (f : Nat → S40) : rd_T40 ((List.range n).map f) (i : Int) = f i := by
  unfold rd_T40; rw [Int.toNat_natCast]; simp [hi]
theorem turn_at (j k : Nat) (hj : j < 8) (hk : k < 8) : Int.tmod (wrap64 ((j : Int) * (k : Int))) 8 = (((j * k) % 8 : Nat) : Int) := by
  have h : j * k ≤ 7 * 7 := Nat.mul_le_mul (by omega) (by omega)
  have e : (j : Int) * (k : Int) = ((j * k : Nat) : Int) := (Int.natCast_mul j k).symm
  rw [e, wr (by omega) (by omega)]
  exact Int.ofNat_tmod (j * k) 8
/-- The program's tones under way: those below k are whole, that of k has j of its terms. -/
def midS (l : List Nat) (k j : Nat) : List S40 := (List.range 8).map fun i => if i < k then sumS l i 8 else if i = k then sumS l k j else ⟨0, 0⟩
theorem midS_next (l : List Nat) (k : Nat) : midS l k 8 = midS l (k + 1) 0 := by
  unfold midS
  refine List.map_congr_left fun i _ => ?_
  by_cases h : i < k
  · rw [if_pos h, if_pos (by omega)]
  · rw [if_neg h]
    by_cases h2 : i = k
    · rw [if_pos h2, if_pos (by omega), h2]
    · rw [if_neg h2, if_neg (by omega)]
      by_cases h3 : i = k + 1
      · rw [if_pos h3]; rfl
      · rw [if_neg h3]
theorem impl_row (l : List Nat) (hl : l.length = 8) (hx : inOK l) (k : Nat) (hk : k < 8) {r : List S40 × Int}
    (h : Ev (fun q => impl_Spectrum.l1 q l TW (midS l k 8) 8 ((k + 1 : Nat) : Int)) r) : Ev (fun q => impl_Spectrum.l2 q l TW (midS l k 0) (k : Int) 8 (k : Int) l (l.length : Int) 0) r := by
  have snd := (sum_sound l hl hx k 8 (Nat.le_refl _)).2
  exact ev_run0 (r := r) (fun j q => impl_Spectrum.l2 q l TW (midS l k j) (k : Int) 8 (k : Int) l (l.length : Int) (j : Int)) 8 (fun j hj q => by
    show impl_Spectrum.l2 (q + 1) l TW (midS l k j) (k : Int) 8 (k : Int) l (l.length : Int) (j : Int) = impl_Spectrum.l2 q l TW (midS l k (j + 1)) (k : Int) 8 (k : Int) l (l.length : Int) ((j + 1 : Nat) : Int)
    obtain ⟨m0, m1, a0, a1⟩ := snd j hj
    have hlen : (midS l k j).length = 8 := by simp [midS]
    have hrd : rd_T40 (midS l k j) (k : Int) = sumS l k j := by
      unfold midS; rw [rd_map_range 8 k hk, if_neg (Nat.lt_irrefl k), if_pos rfl]
    have htw : (TW.length : Int) = 8 := rfl
    have hmod : (j * k) % 8 < 8 := Nat.mod_lt _ (by omega)
    rw [impl_Spectrum.l2, if_pos (by omega), if_pos (by omega), if_pos (by omega), turn_at j k hj hk, if_pos (by omega), if_pos (by rw [htw]; omega)]
    show (if fOk .mul .f64 (rdOf (0 : Nat) l (j : Int)) (twAt k j).f0 = true then (if fOk .mul .f64 (rdOf (0 : Nat) l (j : Int)) (twAt k j).f1 = true then _ else none) else none) = _
    rw [if_pos m0, if_pos m1, if_pos (by omega), if_pos (by omega), hrd, Int.toNat_natCast, wr_succ j (by omega)]
    show (impl_addTone.f (sumS l k j).f0 (sumS l k j).f1 (fOf .mul .f64 (rdOf (0 : Nat) l (j : Int)) (twAt k j).f0) (fOf .mul .f64 (rdOf (0 : Nat) l (j : Int)) (twAt k j).f1)).bind _ = _
    rw [impl_addTone.f, if_pos a0, if_pos a1, Option.bind_some]
    congr 1
    unfold midS
    rw [set_map_range 8 k hk]
    refine List.map_congr_left fun i _ => ?_
    by_cases h2 : i = k
    · rw [if_pos h2, if_neg (by omega), if_pos h2]; rfl
    · rw [if_neg h2]
      by_cases h3 : i < k
      · rw [if_pos h3, if_pos h3]
      · rw [if_neg h3, if_neg h3, if_neg h2, if_neg h2]) (ev_one (fun q => by
    show impl_Spectrum.l2 (q + 1) l TW (midS l k 8) (k : Int) 8 (k : Int) l (l.length : Int) ((8 : Nat) : Int) = _
    rw [impl_Spectrum.l2, if_neg (by omega), wr_succ k (by omega)]) h)
theorem impl_rows (l : List Nat) (hl : l.length = 8) (hx : inOK l) : Ev (fun q => impl_Spectrum.l1 q l TW (midS l 0 0) 8 0) (outS l, (0 : Int)) := by
  refine ev_steps (r := (outS l, (0 : Int))) (fun k q => impl_Spectrum.l1 q l TW (midS l k 0) 8 (k : Int)) 8 (fun k hk hn => ?_) (ev_some fun q => ?_)
  · refine ev_one (fun q => ?_) (impl_row l hl hx k hk (by rw [midS_next]; exact hn))
    show impl_Spectrum.l1 (q + 1) l TW (midS l k 0) 8 (k : Int) = _
    rw [impl_Spectrum.l1, if_pos (by omega)]
  · show impl_Spectrum.l1 (q + 1) l TW (midS l 8 0) 8 ((8 : Nat) : Int) = _
    rw [impl_Spectrum.l1, if_neg (by omega)]
    have : midS l 8 0 = outS l := by
      unfold midS outS
      refine List.map_congr_left fun i hi => ?_
      rw [if_pos (by simpa using hi)]
    rw [this]
theorem impl_spectrum (l : List Nat) (hl : l.length ≤ 1048576) : Ev (fun k => impl_Spectrum.f k l) (specM l) := by
  unfold impl_Spectrum.f
  by_cases h1 : (l.length : Int) > 4096
  · simp only [if_pos h1]; exact ev_const (by unfold specM; rw [if_pos (by omega)])
  simp only [if_neg h1]
  by_cases h2 : (l.length : Int) = 8
  · simp only [if_pos h2]
    have h8 : l.length = 8 := by omega
    rw [specM_in l h8]
    exact all_loop (r := (outS l, (0 : Int))) (bad := (([] : List S40), (1 : Int))) (fun i k => impl_Spectrum.l0 k l l (l.length : Int) (i : Int)) l.length (fun i => fGe .f64 (rdOf (0 : Nat) l (i : Int)) 13920209183539462144 && fLe .f64 (rdOf (0 : Nat) l (i : Int)) 4696837146684686336) (fun i hi hp => ⟨0, fun k _ => by
        show impl_Spectrum.l0 (k + 1) l l (l.length : Int) (i : Int) = impl_Spectrum.l0 k l l (l.length : Int) ((i + 1 : Nat) : Int)
        rw [impl_Spectrum.l0, if_pos (by omega), if_pos (by omega), if_pos (by omega), within_impl, Option.bind_some, hp, if_pos rfl, wr_succ i (by omega)]⟩) (fun i hi hp => ev_some fun k => by
        show impl_Spectrum.l0 (k + 1) l l (l.length : Int) (i : Int) = _
        rw [impl_Spectrum.l0, if_pos (by omega), if_pos (by omega), if_pos (by omega), within_impl, Option.bind_some, hp, if_neg (by simp)]) (fun hall => by
        have hx : inOK l := fun i hi => by simpa using hall i hi
        have z : List.replicate 8 z40 = midS l 0 0 := by
          unfold midS
          apply List.ext_getElem (by simp)
          intro i q1 q2
          simp only [List.getElem_replicate, List.getElem_map, List.getElem_range, Nat.not_lt_zero, if_false]
          split <;> rfl
        refine ev_one (fun k => ?_) (impl_rows l h8 hx)
        show impl_Spectrum.l0 (k + 1) l l (l.length : Int) (l.length : Int) = _
        rw [impl_Spectrum.l0, if_neg (by omega), if_pos (by omega), Option.bind_some, z]
        rfl)
  · simp only [if_neg h2]; exact ev_const (by unfold specM; rw [if_neg (by omega), if_neg (fun g => h2 (by omega))])
theorem spec_row (l : List Nat) (hl : l.length = 8) (hx : inOK l) (k : Nat) (hk : k < 8) (X : List S40) (hX : X.length ≤ 8) {r : List S40 × Int}
    (h : Ev (fun q => spec_Spectrum.l1 q l TW (X ++ [sumS l k 8]) ((k + 1 : Nat) : Int)) r) : Ev (fun q => spec_Spectrum.l2 q l TW X (k : Int) 0 0 0) r := by
  have snd := (sum_sound l hl hx k 8 (Nat.le_refl _)).2
  exact ev_run0 (r := r) (fun j q => spec_Spectrum.l2 q l TW X (k : Int) (j : Int) (sumS l k j).f0 (sumS l k j).f1) 8 (fun j hj q => by
    show spec_Spectrum.l2 (q + 1) l TW X (k : Int) (j : Int) (sumS l k j).f0 (sumS l k j).f1 = spec_Spectrum.l2 q l TW X (k : Int) ((j + 1 : Nat) : Int) (sumS l k (j + 1)).f0 (sumS l k (j + 1)).f1
    obtain ⟨m0, m1, a0, a1⟩ := snd j hj
    have htw : (TW.length : Int) = 8 := rfl
    have hmod : (j * k) % 8 < 8 := Nat.mod_lt _ (by omega)
    rw [spec_Spectrum.l2, if_pos (by omega), turn_at j k hj hk, if_pos (by omega), if_pos (by rw [htw]; omega), if_pos (by omega), if_pos (by omega)]
    show (if fOk .mul .f64 (rdOf (0 : Nat) l (j : Int)) (twAt k j).f0 = true then (if fOk .mul .f64 (rdOf (0 : Nat) l (j : Int)) (twAt k j).f1 = true then (if fOk .add .f64 (sumS l k j).f0 (fOf .mul .f64 (rdOf (0 : Nat) l (j : Int)) (twAt k j).f0) = true then (if fOk .add .f64 (sumS l k j).f1 (fOf .mul .f64 (rdOf (0 : Nat) l (j : Int)) (twAt k j).f1) = true then _ else none) else none) else none) else none) = _
    rw [if_pos m0, if_pos m1, if_pos a0, if_pos a1, wr_succ j (by omega)]
    rfl) (ev_one (fun q => by
    show spec_Spectrum.l2 (q + 1) l TW X (k : Int) ((8 : Nat) : Int) (sumS l k 8).f0 (sumS l k 8).f1 = _
    rw [spec_Spectrum.l2, if_neg (by omega), if_pos (by omega), wr_succ k (by omega)]) h)
theorem spec_rows (l : List Nat) (hl : l.length = 8) (hx : inOK l) : Ev (fun q => spec_Spectrum.l1 q l TW [] 0) (outS l, (0 : Int)) := by
  refine ev_steps (r := (outS l, (0 : Int))) (fun k q => spec_Spectrum.l1 q l TW ((List.range k).map fun i => sumS l i 8) (k : Int)) 8 (fun k hk hn => ?_) (ev_some fun q => ?_)
  · refine ev_one (fun q => ?_) (spec_row l hl hx k hk ((List.range k).map fun i => sumS l i 8) (by simp; omega) (by rw [List.range_succ, List.map_append] at hn; exact hn))
    show spec_Spectrum.l1 (q + 1) l TW _ (k : Int) = _
    rw [spec_Spectrum.l1, if_pos (by omega)]
  · show spec_Spectrum.l1 (q + 1) l TW _ ((8 : Nat) : Int) = _
    rw [spec_Spectrum.l1, if_neg (by omega)]; rfl
theorem spec_spectrum (l : List Nat) (hl : l.length ≤ 1048576) : Ev (fun k => spec_Spectrum.f k l) (specM l) := by
  unfold spec_Spectrum.f
  by_cases h1 : (l.length : Int) > 4096
  · simp only [if_pos h1]; exact ev_const (by unfold specM; rw [if_pos (by omega)])
  simp only [if_neg h1]
  by_cases h2 : (l.length : Int) = 8
  · simp only [if_pos h2]
    have h8 : l.length = 8 := by omega
    rw [specM_in l h8]
    exact all_loop (r := (outS l, (0 : Int))) (bad := (([] : List S40), (1 : Int))) (fun i k => spec_Spectrum.l0 k l (i : Int)) l.length (fun i => fGe .f64 (rdOf (0 : Nat) l (i : Int)) 13920209183539462144 && fLe .f64 (rdOf (0 : Nat) l (i : Int)) 4696837146684686336) (fun i hi hp => ⟨0, fun k _ => by
        show spec_Spectrum.l0 (k + 1) l (i : Int) = spec_Spectrum.l0 k l ((i + 1 : Nat) : Int)
        rw [spec_Spectrum.l0, if_pos (by omega), if_pos (by omega), if_pos (by omega), within_spec, Option.bind_some, hp, if_pos rfl, wr_succ i (by omega)]⟩) (fun i hi hp => ev_some fun k => by
        show spec_Spectrum.l0 (k + 1) l (i : Int) = _
        rw [spec_Spectrum.l0, if_pos (by omega), if_pos (by omega), if_pos (by omega), within_spec, Option.bind_some, hp, if_neg (by simp)]) (fun hall => by
        have hx : inOK l := fun i hi => by simpa using hall i hi
        refine ev_one (fun k => ?_) (spec_rows l h8 hx)
        show spec_Spectrum.l0 (k + 1) l (l.length : Int) = _
        rw [spec_Spectrum.l0, if_neg (by omega), neg_h]
        rfl)
  · simp only [if_neg h2]; exact ev_const (by unfold specM; rw [if_neg (by omega), if_neg (fun g => h2 (by omega))])
/-! ### Tones, compared, marked and held -/
theorem same_tones (l : List S40) (h : l.length ≤ 1048576) : Ev (fun k => laws_eqToneS.f k l l) true := by
  unfold laws_eqToneS.f
  simp only [if_true]
  exact ev_steps (r := true) (fun i k => laws_eqToneS.l0 k l l (i : Int)) l.length (fun i hi hn => by
    refine ev_one (f := fun k => (laws_eqTone.f k (rd_T40 l (i : Int)).f0 (rd_T40 l (i : Int)).f1 (rd_T40 l (i : Int)).f0 (rd_T40 l (i : Int)).f1).bind fun t160 => (if t160 = true then (laws_eqToneS.l0 k l l ((i + 1 : Nat) : Int)) else (some false))) (fun k => by
      show laws_eqToneS.l0 (k + 1) l l (i : Int) = _
      rw [laws_eqToneS.l0, if_pos (by omega), if_pos (by omega), if_pos (by omega), wr_succ i (by omega)]) ?_
    have ht : Ev (fun k => laws_eqTone.f k (rd_T40 l (i : Int)).f0 (rd_T40 l (i : Int)).f1 (rd_T40 l (i : Int)).f0 (rd_T40 l (i : Int)).f1) true := by
      unfold laws_eqTone.f
      refine Ev.bind (ev_same _) ?_
      simp only [if_true]
      refine Ev.bind (ev_same _) ?_
      simp only [if_true]; exact Ev.now _
    refine Ev.bind ht ?_
    simp only [if_true]; exact hn) (ev_some fun k => by
    show laws_eqToneS.l0 (k + 1) l l (l.length : Int) = _
    rw [laws_eqToneS.l0, if_neg (by omega)])
theorem mark_tones (n : Nat) (hn : n ≤ 1048576) : ∀ (m i : Nat) (x : List S40), i + m = n → x.length = n → (∀ j, j < i → (rd_T40 x (j : Int)).f0 = fInt .f64 (1 + 2 * (j : Int)) ∧ (rd_T40 x (j : Int)).f1 = fInt .f64 (2 + 2 * (j : Int))) → ∃ x', Ev (fun k => laws_markToneS.l0 k x (1 + 2 * (i : Int)) (i : Int)) (1 + 2 * (n : Int), x') ∧ x'.length = n ∧ ∀ j, j < n → (rd_T40 x' (j : Int)).f0 = fInt .f64 (1 + 2 * (j : Int)) ∧ (rd_T40 x' (j : Int)).f1 = fInt .f64 (2 + 2 * (j : Int)) := by
  intro m
  induction m with
  | zero =>
    intro i x hi hx hr
    obtain rfl : i = n := by omega
    exact ⟨x, ev_some fun k => by rw [laws_markToneS.l0, if_neg (by omega)], hx, hr⟩
  | succ m ih =>
    intro i x hi hx hr
    have rs : ∀ (l : List S40) (p : S40) (j : Nat), i < l.length → rd_T40 (l.set i p) (j : Int) = if i = j then p else rd_T40 l (j : Int) := by
      intro l p j hl
      simp only [rd_T40, Int.toNat_natCast, List.getD_eq_getElem?_getD, List.getElem?_set]
      by_cases h : i = j
      · subst h; simp [hl]
      · simp [h]
    have e1 : ∀ p q : Nat, (x.set i (⟨p, (rd_T40 x (i : Int)).f1⟩ : S40)).set i (⟨(rd_T40 (x.set i (⟨p, (rd_T40 x (i : Int)).f1⟩ : S40)) (i : Int)).f0, q⟩ : S40) = x.set i (⟨p, q⟩ : S40) := by
      intro p q
      rw [rs x _ i (by omega), if_pos rfl, List.set_set]
    obtain ⟨x', h, h1, h2⟩ := ih (i + 1) (x.set i (⟨fInt .f64 (1 + 2 * (i : Int)), fInt .f64 (1 + 2 * (i : Int) + 1)⟩ : S40)) (by omega) (by simpa using hx) (fun j hj => by
      rw [rs x _ j (by omega)]
      by_cases e : i = j
      · rw [if_pos e]; subst e; exact ⟨rfl, by show fInt .f64 (1 + 2 * (i : Int) + 1) = _; congr 1; omega⟩
      · rw [if_neg e]; exact hr j (by omega))
    refine ⟨x', ev_one (fun k => ?_) h, h1, h2⟩
    rw [laws_markToneS.l0, if_pos (by omega), if_pos (by omega), Option.bind_some, Int.toNat_natCast, wr (n := 1 + 2 * (i : Int) + 1) (by omega) (by omega), e1, wr (n := 1 + 2 * (i : Int) + 1 + 1) (by omega) (by omega), wr_succ i (by omega), show 1 + 2 * (i : Int) + 1 + 1 = 1 + 2 * ((i + 1 : Nat) : Int) by omega]
theorem held_tones (x : List S40) (hn : x.length ≤ 1048576) (h : ∀ j, j < x.length → (rd_T40 x (j : Int)).f0 = fInt .f64 (1 + 2 * (j : Int)) ∧ (rd_T40 x (j : Int)).f1 = fInt .f64 (2 + 2 * (j : Int))) : Ev (fun k => laws_heldToneS.f k x 1) (1 + 2 * (x.length : Int)) := by
  have := ev_run0 (r := 1 + 2 * (x.length : Int)) (fun i k => laws_heldToneS.l0 k x (1 + 2 * (i : Int)) (i : Int)) x.length (fun i hi k => by
    show laws_heldToneS.l0 (k + 1) x (1 + 2 * (i : Int)) (i : Int) = laws_heldToneS.l0 k x (1 + 2 * ((i + 1 : Nat) : Int)) ((i + 1 : Nat) : Int)
    obtain ⟨v, hv⟩ := f_int (k := .f64) (1 + 2 * (i : Int)) (by omega)
    obtain ⟨v2, hv2⟩ := f_int (k := .f64) (2 + 2 * (i : Int)) (by omega)
    obtain ⟨h0, h1⟩ := h i hi
    rw [laws_heldToneS.l0, if_pos (by omega), if_pos (by omega), h0, if_neg (by rw [f_ne_self hv]; simp), wr (n := 1 + 2 * (i : Int) + 1) (by omega) (by omega), h1, show 1 + 2 * (i : Int) + 1 = 2 + 2 * (i : Int) by omega, if_neg (by rw [f_ne_self hv2]; simp), wr (by omega) (by omega), wr_succ i (by omega), show 2 + 2 * (i : Int) + 1 = 1 + 2 * ((i + 1 : Nat) : Int) by omega]) (ev_some fun k => by
    show laws_heldToneS.l0 (k + 1) x (1 + 2 * (x.length : Int)) (x.length : Int) = _
    rw [laws_heldToneS.l0, if_neg (by omega)])
  simpa [laws_heldToneS.f] using this
theorem specM_len (l : List Nat) : (specM l).1.length ≤ 8 := by
  unfold specM outS
  split
  · simp
  · split <;> simp

theorem FnExactSpectrum : laws_FnExactSpectrum.Plain := by
  intro l hl
  refine Ev.rounds ?_
  have hl1 := hl.1
  unfold maxLen at hl1
  unfold laws_FnExactSpectrum.f
  by_cases hs : (l.length : Int) > 1048576
  · simp only [if_pos hs]; exact ev_const rfl
  simp only [if_neg hs]
  have hc := copy_f64 l (by omega)
  have sp := spec_spectrum l (by omega)
  have ip := impl_spectrum l (by omega)
  have h1 := specM_len l
  revert sp ip h1
  generalize specM l = M
  obtain ⟨c, e⟩ := M
  intro sp ip h1
  have h1 : c.length ≤ 8 := h1
  have so := same_tones c (by omega)
  obtain ⟨l', hml⟩ := mark_f64 l.length (by omega) l.length 0 l (by omega) rfl
  have hml : Ev (fun k => laws_markFloat64S.f k l 1) (1 + (l.length : Int), l') := hml
  obtain ⟨c', hm, hm1, hm2⟩ := mark_tones c.length (by omega) c.length 0 c (by omega) rfl (fun j hj => by omega)
  have hm : Ev (fun k => laws_markToneS.f k c 1) (1 + 2 * (c.length : Int), c') := hm
  have hh := held_tones c' (by omega) (by rw [hm1]; exact hm2)
  rw [hm1] at hh
  refine Ev.bind hc ?_
  refine Ev.bind sp ?_
  refine Ev.bind hc ?_
  refine Ev.bind ip ?_
  refine Ev.bind so ?_
  simp only [if_true, bne_self_eq_false]
  have j2 : Ev (fun k => laws_FnExactSpectrum.j2 k c' (1 + 2 * (c.length : Int)) false) true := by
    refine ev_one (f := fun k => (laws_heldToneS.f k c' 1).bind fun t180 => (if t180 < 0 then (some false) else (if t180 = 1 + 2 * (c.length : Int) then (some true) else (some false)))) (fun k => by simp only [laws_FnExactSpectrum.j2, Bool.false_eq_true, if_false]) ?_
    refine Ev.bind hh ?_
    simp only [if_neg (show ¬ 1 + 2 * (c.length : Int) < 0 by omega), if_true]
    exact Ev.now _
  have j1 : Ev (fun k => laws_FnExactSpectrum.j1 k l c e c false) true := by
    refine ev_one (f := fun k => (laws_markToneS.f k c 1).bind fun bt169 => ((laws_heldToneS.f k bt169.2 1).bind fun t171 => (if t171 < 0 then (some false) else (if t171 = bt169.1 then ((laws_toFloat64S.f k l).bind fun t172 => ((impl_Spectrum.f k t172).bind fun bt175 => ((laws_eqToneS.f k bt175.1 c).bind fun t179 => (if t179 = true then (laws_FnExactSpectrum.j2 k bt169.2 bt169.1 (bt175.2 != e)) else (laws_FnExactSpectrum.j2 k bt169.2 bt169.1 true))))) else (some false))))) (fun k => by simp only [laws_FnExactSpectrum.j1, Bool.false_eq_true, if_false]) ?_
    refine Ev.bind hm ?_
    refine Ev.bind hh ?_
    simp only [if_neg (show ¬ 1 + 2 * (c.length : Int) < 0 by omega), if_true]
    refine Ev.bind hc ?_
    refine Ev.bind ip ?_
    refine Ev.bind so ?_
    simp only [if_true, bne_self_eq_false]
    exact j2
  refine ev_one (f := fun k => (laws_toFloat64S.f k l).bind fun t162 => ((laws_eqFloat64S.f k l t162).bind fun t165 => (if t165 = true then ((laws_markFloat64S.f k l 1).bind fun bt166 => (if bt166.1 < 0 then (laws_FnExactSpectrum.j1 k l c e c true) else ((laws_eqToneS.f k c c).bind fun t168 => (if t168 = true then (laws_FnExactSpectrum.j1 k l c e c (e != e)) else (laws_FnExactSpectrum.j1 k l c e c true))))) else (some false)))) (fun k => by simp only [laws_FnExactSpectrum.j0, Bool.false_eq_true, if_false]) ?_
  refine Ev.bind hc ?_
  refine Ev.bind (same_f64 l (by omega)) ?_
  simp only [if_true]
  refine Ev.bind hml ?_
  simp only [if_neg (show ¬ 1 + (l.length : Int) < 0 by omega)]
  refine Ev.bind so ?_
  simp only [if_true, bne_self_eq_false]
  exact j1
end Go.Proofs.Ytlmlhkmkabklmaa.Pure
