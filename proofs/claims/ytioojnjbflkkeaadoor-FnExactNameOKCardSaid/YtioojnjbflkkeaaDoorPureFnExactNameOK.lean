/- FnExactNameOK over bytes alone: the program's NameOK and the reference's answer alike at every string. -/
import Derived.Test.YtioojnjbflkkeaaDoorSFnExactNameOK
import Derived.Test.YtioojnjbflkkeaaDoorLib
namespace Go.Proofs.YtioojnjbflkkeaaDoor.Pure
open Go.RowKit Go.Proofs.YtioojnjbflkkeaaDoor.PFnExactNameOK Go.Proofs.YtioojnjbflkkeaaDoorW.PrintWords Go.Proofs.YtioojnjbflkkeaaDoorW.PrintLast Go.Proofs.YtioojnjbflkkeaaDoor.Lib
set_option linter.unusedVariables false
set_option linter.unusedSimpArgs false

/-- How many bytes a letter has whose first byte is c and whose second, if there is one more, is b. -/
def letR (r : Int) : Bool := decide (192 ≤ r ∧ r ≤ 591 ∧ r ≠ 215 ∧ r ≠ 247 ∨ 913 ≤ r ∧ r ≤ 969 ∨ 1040 ≤ r ∧ r ≤ 1103)
def letA (c : Int) : Bool := decide (97 ≤ c ∧ c ≤ 122 ∨ 65 ≤ c ∧ c ≤ 90 ∨ c = 95)
def letN (c b : Int) (more : Bool) : Int :=
  if letA c = true then 1 else if c < 194 ∨ c > 223 ∨ more = false ∨ b < 128 ∨ b > 191 then 0 else if letR ((c - 192) * 64 + b - 128) = true then 2 else 0
theorem spec_letter (s : ByteArray) (i : Nat) (h : i < s.size) (hs : s.size ≤ 9223372036854775806) :
    Ev (fun k => spec_l00Letter.f k s (i : Int)) (letN (bt s (i : Int)) (bt s ((i : Int) + 1)) (decide (i + 1 < s.size))) := by
  have hc := bt_range s (i : Int)
  have hb := bt_range s ((i : Int) + 1)
  have w1 : wrap64 ((i : Int) + 1) = (i : Int) + 1 := wr (by omega) (by omega)
  have red : ∀ k, spec_l00Letter.f k s (i : Int) = spec_l00Letter.j0 k s (i : Int) (bt s (i : Int)) (letA (bt s (i : Int))) := by
    intro k
    unfold spec_l00Letter.f letA
    generalize bt s (i : Int) = c at *
    rw [if_pos (by omega), if_pos (by omega)]
    repeat' split
    all_goals first
      | (congr 1; exact (decide_eq_true (by omega)).symm)
      | (congr 1; rw [Bool.eq_iff_iff, beq_iff_eq, decide_eq_true_eq]; omega)
  have j1t : ∀ k, spec_l00Letter.j1 (k + 1) s (i : Int) (bt s (i : Int)) true = some 0 := fun k => by simp only [spec_l00Letter.j1, if_true]
  refine Ev.congr red ?_
  unfold letN
  cases ha : letA (bt s (i : Int)) with
  | true =>
    rw [if_pos rfl]
    exact ev_some fun k => by simp only [spec_l00Letter.j0, if_true]
  | false =>
    rw [if_neg Bool.false_ne_true]
    by_cases hz : bt s (i : Int) < 194 ∨ bt s (i : Int) > 223 ∨ decide (i + 1 < s.size) = false ∨ bt s ((i : Int) + 1) < 128 ∨ bt s ((i : Int) + 1) > 191
    · rw [if_pos hz]
      refine ⟨2, fun k hk => ?_⟩
      obtain ⟨m, rfl⟩ : ∃ m, k = m + 2 := ⟨k - 2, by omega⟩
      simp only [spec_l00Letter.j0, Bool.false_eq_true, if_false, w1]
      rw [decide_eq_false_iff_not] at hz
      by_cases z1 : bt s (i : Int) < 194
      · rw [if_pos z1]; exact j1t m
      rw [if_neg z1]
      by_cases z2 : bt s (i : Int) > 223
      · rw [if_pos z2]; exact j1t m
      rw [if_neg z2]
      by_cases z3 : (i : Int) + 1 ≥ (s.size : Int)
      · rw [if_pos z3]; exact j1t m
      rw [if_neg z3, if_pos (by omega), if_pos (by omega)]
      by_cases z4 : bt s ((i : Int) + 1) < 128
      · rw [if_pos z4]; exact j1t m
      rw [if_neg z4, decide_eq_true (show bt s ((i : Int) + 1) > 191 by omega)]; exact j1t m
    · rw [if_neg hz]
      have hm : i + 1 < s.size := by
        rcases Nat.lt_or_ge (i + 1) s.size with hh | hh
        · exact hh
        · exact absurd (Or.inr (Or.inr (Or.inl (decide_eq_false (by omega))))) hz
      have hcb : 194 ≤ bt s (i : Int) ∧ bt s (i : Int) ≤ 223 ∧ 128 ≤ bt s ((i : Int) + 1) ∧ bt s ((i : Int) + 1) ≤ 191 := by
        refine ⟨?_, ?_, ?_, ?_⟩
        · exact Int.not_lt.1 fun hx => hz (Or.inl hx)
        · exact Int.not_lt.1 fun hx => hz (Or.inr (Or.inl hx))
        · exact Int.not_lt.1 fun hx => hz (Or.inr (Or.inr (Or.inr (Or.inl hx))))
        · exact Int.not_lt.1 fun hx => hz (Or.inr (Or.inr (Or.inr (Or.inr hx))))
      refine ⟨2, fun k hk => ?_⟩
      obtain ⟨m, rfl⟩ : ∃ m, k = m + 2 := ⟨k - 2, by omega⟩
      simp only [spec_l00Letter.j0, Bool.false_eq_true, if_false, w1]
      rw [if_neg (by omega), if_neg (by omega), if_neg (by omega), if_pos (by omega), if_pos (by omega), if_neg (by omega), decide_eq_false (show ¬ bt s ((i : Int) + 1) > 191 by omega)]
      simp only [spec_l00Letter.j1, Bool.false_eq_true, if_false, w1]
      rw [if_pos (by omega), if_pos (by omega)]
      generalize bt s (i : Int) = c at *
      generalize bt s ((i : Int) + 1) = b at *
      rw [wr (n := c) (by omega) (by omega), wr (n := c - 192) (by omega) (by omega), wr (n := (c - 192) * 64) (by omega) (by omega), wr (n := b) (by omega) (by omega), wr (n := (c - 192) * 64 + b) (by omega) (by omega), wr (n := (c - 192) * 64 + b - 128) (by omega) (by omega)]
      unfold letR
      generalize (c - 192) * 64 + b - 128 = r
      clear hz hcb hc hb
      repeat' split
      all_goals first
        | rfl
        | (exfalso; simp only [decide_eq_true_eq] at *; omega)
def nlB (r z : Int) : Bool := decide (z = 1 ∧ letA r = true ∨ z = 2 ∧ letR r = true)
theorem impl_letter (r z : Int) : impl_nameLetter.f r z = some (nlB r z) := by
  unfold impl_nameLetter.f nlB letA letR
  simp only [decide_eq_true_eq]
  repeat' split
  all_goals first
    | (congr 1; exact (decide_eq_true (by omega)).symm)
    | (congr 1; exact (decide_eq_false (by omega)).symm)
    | (congr 1; rw [Bool.eq_iff_iff, beq_iff_eq, decide_eq_true_eq]; omega)
    | (congr 1; rw [Bool.eq_iff_iff, decide_eq_true_eq, decide_eq_true_eq]; omega)
theorem get_bt (s : ByteArray) (i : Nat) (h : i < s.size) : ((s.get! i).toNat : Int) = bt s (i : Int) := by
  have h' : ((i : Int)).toNat < s.size := by omega
  have := bt_at s (i : Int) h'
  rw [← this]
  have e : s.get! i = s[i]'h := by
    cases s with
    | mk d => exact getElem!_pos d i h
  rw [e]; rfl
theorem get_ext (s : ByteArray) (i j : Nat) (h : i + j < s.size) : (s.extract i s.size).get! j = s.get! (i + j) := by
  have hz : j < (s.extract i s.size).size := by rw [ByteArray.size_extract]; omega
  have e : ∀ (t : ByteArray) (n : Nat) (hn : n < t.size), t.get! n = t[n]'hn := fun t n hn => by
    cases t with
    | mk d => exact getElem!_pos d n hn
  rw [e _ _ hz, e _ _ h]
  exact ByteArray.getElem_extract ..
theorem dec_at (s : ByteArray) (i : Nat) (h : i < s.size) : ∃ b1 b2 b3 : Nat, Lib.decodeGo (s.extract i s.size) = Lib.decodeN (s.size - i) (bt s (i : Int)).toNat b1 b2 b3 ∧ (i + 1 < s.size → (b1 : Int) = bt s ((i : Int) + 1)) ∧ b1 < 256 := by
  have hz : (s.extract i s.size).size = s.size - i := by rw [ByteArray.size_extract]; omega
  refine ⟨((s.extract i s.size).get! 1).toNat, ((s.extract i s.size).get! 2).toNat, ((s.extract i s.size).get! 3).toNat, ?_, ?_, UInt8.toNat_lt _⟩
  · unfold Lib.decodeGo
    rw [if_neg (by omega), Lib.decode_at, hz, Nat.sub_zero, get_ext s i 0 h, Nat.add_zero, ← get_bt s i h]
    rfl
  · intro h1
    rw [get_ext s i 1 h1, get_bt s (i + 1) h1]; rfl
/-- What the program's decoder and test tell of a place is what the reference's tell. -/
theorem dec_step (n c b1 b2 b3 : Nat) (hc : c < 256) (hb : b1 < 256) (b : Int) (he : 1 < n → (b1 : Int) = b) (hn : 1 ≤ n) :
    (nlB ((Lib.decodeN n c b1 b2 b3).1 : Int) ((Lib.decodeN n c b1 b2 b3).2 : Int) = true ↔ letN (c : Int) b (decide (1 < n)) ≠ 0) ∧
    (letN (c : Int) b (decide (1 < n)) ≠ 0 → ((Lib.decodeN n c b1 b2 b3).2 : Int) = letN (c : Int) b (decide (1 < n))) ∧
    ((48 ≤ ((Lib.decodeN n c b1 b2 b3).1 : Int) ∧ ((Lib.decodeN n c b1 b2 b3).1 : Int) ≤ 57) ↔ (48 ≤ (c : Int) ∧ (c : Int) ≤ 57)) ∧
    ((48 ≤ (c : Int) ∧ (c : Int) ≤ 57) → ((Lib.decodeN n c b1 b2 b3).2 : Int) = 1) := by
  have big : letA 65533 = false := by decide
  by_cases h1 : c < 128
  · have e : Lib.decodeN n c b1 b2 b3 = (c, 1) := by unfold Lib.decodeN; rw [if_pos h1]
    rw [e]
    have hl : letN (c : Int) b (decide (1 < n)) = if letA (c : Int) = true then 1 else 0 := by
      unfold letN
      by_cases ha : letA (c : Int) = true
      · rw [if_pos ha, if_pos ha]
      · rw [if_neg ha, if_neg ha, if_pos (Or.inl (by omega))]
    have hn1 : nlB ((c : Nat) : Int) ((1 : Nat) : Int) = letA (c : Int) := by
      unfold nlB
      rw [Bool.eq_iff_iff, decide_eq_true_eq]
      constructor
      · rintro (⟨_, h⟩ | ⟨h, _⟩)
        · exact h
        · omega
      · intro h; exact Or.inl ⟨by omega, h⟩
    rw [hl]
    simp only
    rw [hn1]
    cases letA (c : Int) with
    | true => simp
    | false => simp
  by_cases h2 : c / 32 = 6 ∧ (1 < n ∧ b1 / 64 = 2)
  · obtain ⟨h2a, h2b, h2c⟩ := h2
    have hb' := he h2b
    have ha : letA (c : Int) = false := by unfold letA; rw [decide_eq_false_iff_not]; omega
    by_cases h3 : c % 32 * 64 + b1 % 64 ≥ 128
    · have e : Lib.decodeN n c b1 b2 b3 = (c % 32 * 64 + b1 % 64, 2) := by unfold Lib.decodeN; rw [if_neg h1, if_pos ⟨h2a, h2b, h2c⟩, if_pos h3]
      have ev : ((c % 32 * 64 + b1 % 64 : Nat) : Int) = ((c : Int) - 192) * 64 + b - 128 := by omega
      have hl : letN (c : Int) b (decide (1 < n)) = if letR (((c : Int) - 192) * 64 + b - 128) = true then 2 else 0 := by
        unfold letN
        rw [ha, if_neg Bool.false_ne_true, if_neg (by rw [decide_eq_false_iff_not]; omega)]
      have hn1 : nlB ((c % 32 * 64 + b1 % 64 : Nat) : Int) ((2 : Nat) : Int) = letR (((c : Int) - 192) * 64 + b - 128) := by
        unfold nlB
        rw [ev, Bool.eq_iff_iff, decide_eq_true_eq]
        constructor
        · rintro (⟨h, _⟩ | ⟨_, h⟩)
          · omega
          · exact h
        · intro h; exact Or.inr ⟨by omega, h⟩
      rw [e, hl]
      simp only
      rw [hn1]
      refine ⟨?_, ?_, ?_, ?_⟩
      · cases letR (((c : Int) - 192) * 64 + b - 128) <;> simp
      · cases letR (((c : Int) - 192) * 64 + b - 128) <;> simp
      · omega
      · omega
    · have e : Lib.decodeN n c b1 b2 b3 = (65533, 1) := by unfold Lib.decodeN; rw [if_neg h1, if_pos ⟨h2a, h2b, h2c⟩, if_neg h3]
      have hl : letN (c : Int) b (decide (1 < n)) = 0 := by
        unfold letN
        rw [ha, if_neg Bool.false_ne_true, if_pos (Or.inl (by omega))]
      have hn1 : nlB ((65533 : Nat) : Int) ((1 : Nat) : Int) = false := by decide
      rw [e, hl]
      simp only
      rw [hn1]
      refine ⟨by simp, by simp, by omega, by omega⟩
  · have ha : letA (c : Int) = false := by unfold letA; rw [decide_eq_false_iff_not]; omega
    have hl : letN (c : Int) b (decide (1 < n)) = 0 := by
      unfold letN
      rw [ha, if_neg Bool.false_ne_true]
      by_cases hm : 1 < n
      · have hb' := he hm
        rw [if_pos (by
          have : ¬ (c / 32 = 6 ∧ b1 / 64 = 2) := fun hh => h2 ⟨hh.1, hm, hh.2⟩
          omega)]
      · rw [if_pos (Or.inr (Or.inr (Or.inl (decide_eq_false hm))))]
    have hd : (Lib.decodeN n c b1 b2 b3 = (65533, 1)) ∨ (2048 ≤ (Lib.decodeN n c b1 b2 b3).1 ∧ 3 ≤ (Lib.decodeN n c b1 b2 b3).2) := by
      unfold Lib.decodeN
      rw [if_neg h1, if_neg h2]
      split
      · split
        · rename_i hv; exact Or.inr ⟨hv.1, by simp⟩
        · exact Or.inl rfl
      · split
        · split
          · rename_i hv; exact Or.inr ⟨by have := hv.1; simp only; omega, by simp⟩
          · exact Or.inl rfl
        · exact Or.inl rfl
    rw [hl]
    rcases hd with e | ⟨e1, e2⟩
    · have hn1 : nlB ((65533 : Nat) : Int) ((1 : Nat) : Int) = false := by decide
      rw [e]
      simp only
      rw [hn1]
      refine ⟨by simp, by simp, by omega, by omega⟩
    · generalize Lib.decodeN n c b1 b2 b3 = D at *
      have hn1 : nlB (D.1 : Int) (D.2 : Int) = false := by
        unfold nlB
        rw [decide_eq_false_iff_not]
        rintro (⟨h, _⟩ | ⟨h, _⟩) <;> omega
      rw [hn1]
      refine ⟨by simp, by simp, by omega, by omega⟩
/-- How many bytes of a name stand at a place, both. -/
theorem both_run (s : ByteArray) (hs : s.size ≤ 1048576) : ∀ (m i : Nat), s.size - i ≤ m → i ≤ s.size → ∃ r, Ev (fun k => spec_l00Word.l0 k s 0 (i : Int)) r ∧ Ev (fun k => impl_nameRun.l0 k s 0 false (i : Int)) r := by
  intro m
  induction m with
  | zero =>
    intro i h1 h2
    obtain rfl : i = s.size := by omega
    refine ⟨(s.size : Int), ev_some fun k => ?_, ev_some fun k => ?_⟩
    · simp only [spec_l00Word.l0]; rw [if_neg (by omega), wr (by omega) (by omega), Int.sub_zero]
    · simp only [impl_nameRun.l0]; rw [wr (by omega) (by omega), if_neg (by omega)]
  | succ m ih =>
    intro i h1 h2
    by_cases hi : i < s.size
    · obtain ⟨b1, b2, b3, hd, hb, hb1⟩ := dec_at s i hi
      have hc := bt_range s (i : Int)
      have e1 : ((bt s (i : Int)).toNat : Int) = bt s (i : Int) := by omega
      obtain ⟨d1, d2, d3, d4⟩ := dec_step (s.size - i) (bt s (i : Int)).toNat b1 b2 b3 (by omega) hb1 (bt s ((i : Int) + 1)) (fun h => hb (by omega)) (by omega)
      rw [show decide (1 < s.size - i) = decide (i + 1 < s.size) by rw [Bool.eq_iff_iff, decide_eq_true_eq, decide_eq_true_eq]; omega] at d1 d2
      rw [e1] at d1 d2 d3 d4
      have sl := spec_letter s i hi (by omega)
      -- the letter's length
      have hL : ∃ n : Nat, letN (bt s (i : Int)) (bt s ((i : Int) + 1)) (decide (i + 1 < s.size)) = (n : Int) ∧ i + n ≤ s.size := by
        unfold letN
        split
        · exact ⟨1, rfl, by omega⟩
        · split
          · exact ⟨0, rfl, by omega⟩
          · rename_i hz
            split
            · refine ⟨2, rfl, ?_⟩
              rcases Nat.lt_or_ge (i + 1) s.size with hh | hh
              · omega
              · exact absurd (Or.inr (Or.inr (Or.inl (decide_eq_false (by omega))))) hz
            · exact ⟨0, rfl, by omega⟩
      obtain ⟨n, hn, hle⟩ := hL
      rw [hn] at d1 d2 sl
      generalize Lib.decodeN (s.size - i) (bt s (i : Int)).toNat b1 b2 b3 = D at *
      have ired : ∀ k, impl_nameRun.l0 (k + 1) s 0 false (i : Int) = (if nlB (D.1 : Int) (D.2 : Int) = true then (impl_nameRun.l0 k s 0 false (wrap64 ((i : Int) + (D.2 : Int)))) else (if (i : Int) > 0 then (if (D.1 : Int) ≥ 48 then (if (D.1 : Int) ≤ 57 then (impl_nameRun.l0 k s 0 false (wrap64 ((i : Int) + (D.2 : Int)))) else (some (i : Int))) else (some (i : Int))) else some (i : Int))) := by
        intro k
        simp only [impl_nameRun.l0]
        rw [wr (n := 0 + (i : Int)) (by omega) (by omega), if_pos (by omega), if_pos (by omega), if_pos (by omega), show ((0 : Int) + (i : Int)).toNat = i by omega]
        simp only [utf8_DecodeRuneInString.f, hd, Option.bind_some, impl_letter, Bool.false_eq_true, if_false]
      by_cases hz : n = 0
      · subst hz
        have hnl : nlB (D.1 : Int) (D.2 : Int) = false := by
          cases hv : nlB (D.1 : Int) (D.2 : Int) with
          | false => rfl
          | true => exact absurd rfl (d1.1 hv)
        by_cases hdg : 0 < i ∧ 48 ≤ bt s (i : Int) ∧ bt s (i : Int) ≤ 57
        · have h2 := d4 hdg.2
          have h3 := d3.2 hdg.2
          obtain ⟨r, r1, r2⟩ := ih (i + 1) (by omega) (by omega)
          refine ⟨r, ?_, ?_⟩
          · refine ev_one (fun k => by simp only [spec_l00Word.l0]; rw [if_pos (by omega)]) ?_
            refine Ev.bind sl ?_
            simp only [Int.natCast_zero, if_true]
            simp only [if_pos (show (i : Int) > 0 by omega), if_pos (show (0 : Int) ≤ (i : Int) by omega), if_pos (show bt s (i : Int) ≥ 48 by omega), decide_eq_true hdg.2.2]
            refine ev_one (fun k => ?_) r1
            simp only [spec_l00Word.j1, if_true]
            rw [if_neg (by decide), wr_succ i (by omega)]
          · refine ev_one (fun k => ?_) r2
            rw [ired, hnl, if_neg Bool.false_ne_true, if_pos (by omega), if_pos (by omega), if_pos (by omega), h2, wr_succ i (by omega)]
        · refine ⟨(i : Int), ?_, ?_⟩
          · have stop : ∀ x : Bool, x = false → Ev (fun k => spec_l00Word.j1 k s 0 (i : Int) 0 x) (i : Int) := fun x hx => ev_some fun k => by
              subst hx
              simp only [spec_l00Word.j1, Bool.false_eq_true, if_false, if_true]
              rw [wr (by omega) (by omega), Int.sub_zero]
            refine ev_one (fun k => by simp only [spec_l00Word.l0]; rw [if_pos (by omega)]) ?_
            refine Ev.bind sl ?_
            simp only [Int.natCast_zero, if_true]
            by_cases g1 : (i : Int) > 0
            · simp only [if_pos g1, if_pos (show (0 : Int) ≤ (i : Int) by omega)]
              by_cases g2 : bt s (i : Int) ≥ 48
              · simp only [if_pos g2]
                exact stop _ (decide_eq_false (by omega))
              · simp only [if_neg g2]
                exact stop _ rfl
            · simp only [if_neg g1]
              exact stop _ rfl
          · refine ev_some fun k => ?_
            rw [ired, hnl, if_neg Bool.false_ne_true]
            by_cases g1 : (i : Int) > 0
            · rw [if_pos g1]
              by_cases g2 : (D.1 : Int) ≥ 48
              · rw [if_pos g2, if_neg (by
                  intro g3
                  exact hdg ⟨by omega, d3.1 ⟨g2, g3⟩⟩)]
              · rw [if_neg g2]
            · rw [if_neg g1]
      · have hnl : nlB (D.1 : Int) (D.2 : Int) = true := d1.2 (by omega)
        have hs2 := d2 (by omega)
        obtain ⟨r, r1, r2⟩ := ih (i + n) (by omega) (by omega)
        refine ⟨r, ?_, ?_⟩
        · refine ev_one (fun k => by simp only [spec_l00Word.l0]; rw [if_pos (by omega)]) ?_
          refine Ev.bind sl ?_
          simp only [if_neg (show ¬ ((n : Nat) : Int) = 0 by omega)]
          refine ev_one (fun k => ?_) r1
          simp only [spec_l00Word.j1, Bool.false_eq_true, if_false]
          rw [if_neg (by omega), wr (by omega) (by omega), show (i : Int) + (n : Int) = ((i + n : Nat) : Int) by omega]
        · refine ev_one (fun k => ?_) r2
          rw [ired, hnl, if_pos rfl, hs2, wr (by omega) (by omega), show (i : Int) + (n : Int) = ((i + n : Nat) : Int) by omega]
    · obtain rfl : i = s.size := by omega
      refine ⟨(s.size : Int), ev_some fun k => ?_, ev_some fun k => ?_⟩
      · simp only [spec_l00Word.l0]; rw [if_neg (by omega), wr (by omega) (by omega), Int.sub_zero]
      · simp only [impl_nameRun.l0]; rw [wr (by omega) (by omega), if_neg (by omega)]
/-- Whether a string is a name: both tell the same. -/
theorem both_name (s : ByteArray) (hs : s.size ≤ maxLen) : ∃ b, Ev (fun k => spec_NameOK.f k s) b ∧ Ev (fun k => impl_NameOK.f k s) b := by
  unfold maxLen at hs
  unfold spec_NameOK.f impl_NameOK.f
  by_cases h1 : (s.size : Int) > 0
  · by_cases h2 : (s.size : Int) ≤ 40
    · obtain ⟨r, r1, r2⟩ := both_run s (by omega) s.size 0 (by omega) (by omega)
      refine ⟨(r == (s.size : Int)), ?_, ?_⟩
      · simp only [if_pos h1, if_pos h2]
        exact Ev.bind (g := fun k => spec_l00Word.f k s 0) r1 (Ev.now _)
      · simp only [if_pos (show (s.size : Int) ≥ 1 by omega), if_pos h2]
        exact Ev.bind (g := fun k => impl_nameRun.f k s 0 false) r2 (Ev.now _)
    · refine ⟨false, ?_, ?_⟩
      · simp only [if_pos h1, if_neg h2]; exact Ev.now _
      · simp only [if_pos (show (s.size : Int) ≥ 1 by omega), if_neg h2]; exact Ev.now _
  · refine ⟨false, ?_, ?_⟩
    · simp only [if_neg h1]; exact Ev.now _
    · simp only [if_neg (show ¬ (s.size : Int) ≥ 1 by omega)]; exact Ev.now _

theorem FnExactNameOK : laws_FnExactNameOK.Plain := by
  intro s hs
  refine Ev.rounds ?_
  unfold laws_FnExactNameOK.f
  by_cases h : (s.size : Int) > 1048576
  · simp only [if_pos h]; exact Ev.now _
  simp only [if_neg h]
  obtain ⟨b, h1, h2⟩ := both_name s hs
  refine Ev.bind h1 ?_
  refine Ev.bind h2 ?_
  simp only [bne_self_eq_false, Bool.false_eq_true, if_false]
  exact Ev.now _
end Go.Proofs.YtioojnjbflkkeaaDoor.Pure
