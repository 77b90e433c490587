/- FnExactChainSafe over numbers and lists alone: the program's ChainSafe and the reference's answer alike at every list of links and every two bounds. -/
import Derived.Test.YthmeijbiemkbaaaDoorSFnExactChainSafe
import Derived.Test.YthmeijbiemkbaaaDoorLib
namespace Go.Proofs.YthmeijbiemkbaaaDoor.Pure
open Go Go.RowKit Go.Proofs.YthmeijbiemkbaaaDoor.PFnExactChainSafe Go.Proofs.YthmeijbiemkbaaaDoorW.PrintWords Go.Proofs.YthmeijbiemkbaaaDoorW.PrintLast Go.Proofs.YthmeijbiemkbaaaDoor.Lib Go.Proofs.YthmeijbiemkbaaaDoor.Seen
set_option linter.unusedVariables false
set_option linter.unusedSimpArgs false

/-- How many bytes a letter has whose first byte is c and whose second, if there is one more, is b. -/
def letR (r : Int) : Bool := decide (192 ≤ r ∧ r ≤ 591 ∧ r ≠ 215 ∧ r ≠ 247 ∨ 913 ≤ r ∧ r ≤ 969 ∨ 1040 ≤ r ∧ r ≤ 1103)
def letA (c : Int) : Bool := decide (97 ≤ c ∧ c ≤ 122 ∨ 65 ≤ c ∧ c ≤ 90 ∨ c = 95)
def letN (c b : Int) (more : Bool) : Int :=
  if letA c = true then 1 else if c < 194 ∨ c > 223 ∨ more = false ∨ b < 128 ∨ b > 191 then 0 else if letR ((c - 192) * 64 + b - 128) = true then 2 else 0
theorem spec_letter (s : ByteArray) (i : Nat) (h : i < s.size) (hs : s.size ≤ 9223372036854775806) :
    Ev (fun k => spec_l00Letter.f k s (i : Int)) (letN (bt s (i : Int)) (bt s ((i : Int) + 1)) (decide (i + 1 < s.size))) := by
  have hc := bt_range s (i : Int)
  have hb := bt_range s ((i : Int) + 1)
  have w1 : wrap64 ((i : Int) + 1) = (i : Int) + 1 := wr (by omega) (by omega)
  have red : ∀ k, spec_l00Letter.f k s (i : Int) = spec_l00Letter.j0 k s (i : Int) (bt s (i : Int)) (letA (bt s (i : Int))) := by
    intro k
    unfold spec_l00Letter.f letA
    generalize bt s (i : Int) = c at *
    rw [if_pos (by omega), if_pos (by omega)]
    repeat' split
    all_goals first
      | (congr 1; exact (decide_eq_true (by omega)).symm)
      | (congr 1; rw [Bool.eq_iff_iff, beq_iff_eq, decide_eq_true_eq]; omega)
  have j1t : ∀ k, spec_l00Letter.j1 (k + 1) s (i : Int) (bt s (i : Int)) true = some 0 := fun k => by simp only [spec_l00Letter.j1, if_true]
  refine Ev.congr red ?_
  unfold letN
  cases ha : letA (bt s (i : Int)) with
  | true =>
    rw [if_pos rfl]
    exact ev_some fun k => by simp only [spec_l00Letter.j0, if_true]
  | false =>
    rw [if_neg Bool.false_ne_true]
    by_cases hz : bt s (i : Int) < 194 ∨ bt s (i : Int) > 223 ∨ decide (i + 1 < s.size) = false ∨ bt s ((i : Int) + 1) < 128 ∨ bt s ((i : Int) + 1) > 191
    · rw [if_pos hz]
      refine ⟨2, fun k hk => ?_⟩
      obtain ⟨m, rfl⟩ : ∃ m, k = m + 2 := ⟨k - 2, by omega⟩
      simp only [spec_l00Letter.j0, Bool.false_eq_true, if_false, w1]
      rw [decide_eq_false_iff_not] at hz
      by_cases z1 : bt s (i : Int) < 194
      · rw [if_pos z1]; exact j1t m
      rw [if_neg z1]
      by_cases z2 : bt s (i : Int) > 223
      · rw [if_pos z2]; exact j1t m
      rw [if_neg z2]
      by_cases z3 : (i : Int) + 1 ≥ (s.size : Int)
      · rw [if_pos z3]; exact j1t m
      rw [if_neg z3, if_pos (by omega), if_pos (by omega)]
      by_cases z4 : bt s ((i : Int) + 1) < 128
      · rw [if_pos z4]; exact j1t m
      rw [if_neg z4, decide_eq_true (show bt s ((i : Int) + 1) > 191 by omega)]; exact j1t m
    · rw [if_neg hz]
      have hm : i + 1 < s.size := by
        rcases Nat.lt_or_ge (i + 1) s.size with hh | hh
        · exact hh
        · exact absurd (Or.inr (Or.inr (Or.inl (decide_eq_false (by omega))))) hz
      have hcb : 194 ≤ bt s (i : Int) ∧ bt s (i : Int) ≤ 223 ∧ 128 ≤ bt s ((i : Int) + 1) ∧ bt s ((i : Int) + 1) ≤ 191 := by
        refine ⟨?_, ?_, ?_, ?_⟩
        · exact Int.not_lt.1 fun hx => hz (Or.inl hx)
        · exact Int.not_lt.1 fun hx => hz (Or.inr (Or.inl hx))
        · exact Int.not_lt.1 fun hx => hz (Or.inr (Or.inr (Or.inr (Or.inl hx))))
        · exact Int.not_lt.1 fun hx => hz (Or.inr (Or.inr (Or.inr (Or.inr hx))))
      refine ⟨2, fun k hk => ?_⟩
      obtain ⟨m, rfl⟩ : ∃ m, k = m + 2 := ⟨k - 2, by omega⟩
      simp only [spec_l00Letter.j0, Bool.false_eq_true, if_false, w1]
      rw [if_neg (by omega), if_neg (by omega), if_neg (by omega), if_pos (by omega), if_pos (by omega), if_neg (by omega), decide_eq_false (show ¬ bt s ((i : Int) + 1) > 191 by omega)]
      simp only [spec_l00Letter.j1, Bool.false_eq_true, if_false, w1]
      rw [if_pos (by omega), if_pos (by omega)]
      generalize bt s (i : Int) = c at *
      generalize bt s ((i : Int) + 1) = b at *
      rw [wr (n := c) (by omega) (by omega), wr (n := c - 192) (by omega) (by omega), wr (n := (c - 192) * 64) (by omega) (by omega), wr (n := b) (by omega) (by omega), wr (n := (c - 192) * 64 + b) (by omega) (by omega), wr (n := (c - 192) * 64 + b - 128) (by omega) (by omega)]
      unfold letR
      generalize (c - 192) * 64 + b - 128 = r
      clear hz hcb hc hb
      repeat' split
      all_goals first
        | rfl
        | (exfalso; simp only [decide_eq_true_eq] at *; omega)
def nlB (r z : Int) : Bool := decide (z = 1 ∧ letA r = true ∨ z = 2 ∧ letR r = true)
theorem impl_letter (r z : Int) : impl_nameLetter.f r z = some (nlB r z) := by
  unfold impl_nameLetter.f nlB letA letR
  simp only [decide_eq_true_eq]
  repeat' split
  all_goals first
    | (congr 1; exact (decide_eq_true (by omega)).symm)
    | (congr 1; exact (decide_eq_false (by omega)).symm)
    | (congr 1; rw [Bool.eq_iff_iff, beq_iff_eq, decide_eq_true_eq]; omega)
    | (congr 1; rw [Bool.eq_iff_iff, decide_eq_true_eq, decide_eq_true_eq]; omega)
theorem get_bt (s : ByteArray) (i : Nat) (h : i < s.size) : ((s.get! i).toNat : Int) = bt s (i : Int) := by
  have h' : ((i : Int)).toNat < s.size := by omega
  have := bt_at s (i : Int) h'
  rw [← this]
  have e : s.get! i = s[i]'h := by
    cases s with
    | mk d => exact getElem!_pos d i h
  rw [e]; rfl
theorem get_ext (s : ByteArray) (i j : Nat) (h : i + j < s.size) : (s.extract i s.size).get! j = s.get! (i + j) := by
  have hz : j < (s.extract i s.size).size := by rw [ByteArray.size_extract]; omega
  have e : ∀ (t : ByteArray) (n : Nat) (hn : n < t.size), t.get! n = t[n]'hn := fun t n hn => by
    cases t with
    | mk d => exact getElem!_pos d n hn
  rw [e _ _ hz, e _ _ h]
  exact ByteArray.getElem_extract ..
theorem dec_at (s : ByteArray) (i : Nat) (h : i < s.size) : ∃ b1 b2 b3 : Nat, Lib.decodeGo (s.extract i s.size) = Lib.decodeN (s.size - i) (bt s (i : Int)).toNat b1 b2 b3 ∧ (i + 1 < s.size → (b1 : Int) = bt s ((i : Int) + 1)) ∧ b1 < 256 := by
  have hz : (s.extract i s.size).size = s.size - i := by rw [ByteArray.size_extract]; omega
  refine ⟨((s.extract i s.size).get! 1).toNat, ((s.extract i s.size).get! 2).toNat, ((s.extract i s.size).get! 3).toNat, ?_, ?_, UInt8.toNat_lt _⟩
  · unfold Lib.decodeGo
    rw [if_neg (by omega), Lib.decode_at, hz, Nat.sub_zero, get_ext s i 0 h, Nat.add_zero, ← get_bt s i h]
    rfl
  · intro h1
    rw [get_ext s i 1 h1, get_bt s (i + 1) h1]; rfl
/-- What the program's decoder and test tell of a place is what the reference's tell. -/
theorem dec_step (n c b1 b2 b3 : Nat) (hc : c < 256) (hb : b1 < 256) (b : Int) (he : 1 < n → (b1 : Int) = b) (hn : 1 ≤ n) :
    (nlB ((Lib.decodeN n c b1 b2 b3).1 : Int) ((Lib.decodeN n c b1 b2 b3).2 : Int) = true ↔ letN (c : Int) b (decide (1 < n)) ≠ 0) ∧
    (letN (c : Int) b (decide (1 < n)) ≠ 0 → ((Lib.decodeN n c b1 b2 b3).2 : Int) = letN (c : Int) b (decide (1 < n))) ∧
    ((48 ≤ ((Lib.decodeN n c b1 b2 b3).1 : Int) ∧ ((Lib.decodeN n c b1 b2 b3).1 : Int) ≤ 57) ↔ (48 ≤ (c : Int) ∧ (c : Int) ≤ 57)) ∧
    ((48 ≤ (c : Int) ∧ (c : Int) ≤ 57) → ((Lib.decodeN n c b1 b2 b3).2 : Int) = 1) := by
  have big : letA 65533 = false := by decide
  by_cases h1 : c < 128
  · have e : Lib.decodeN n c b1 b2 b3 = (c, 1) := by unfold Lib.decodeN; rw [if_pos h1]
    rw [e]
    have hl : letN (c : Int) b (decide (1 < n)) = if letA (c : Int) = true then 1 else 0 := by
      unfold letN
      by_cases ha : letA (c : Int) = true
      · rw [if_pos ha, if_pos ha]
      · rw [if_neg ha, if_neg ha, if_pos (Or.inl (by omega))]
    have hn1 : nlB ((c : Nat) : Int) ((1 : Nat) : Int) = letA (c : Int) := by
      unfold nlB
      rw [Bool.eq_iff_iff, decide_eq_true_eq]
      constructor
      · rintro (⟨_, h⟩ | ⟨h, _⟩)
        · exact h
        · omega
      · intro h; exact Or.inl ⟨by omega, h⟩
    rw [hl]
    simp only
    rw [hn1]
    cases letA (c : Int) with
    | true => simp
    | false => simp
  by_cases h2 : c / 32 = 6 ∧ (1 < n ∧ b1 / 64 = 2)
  · obtain ⟨h2a, h2b, h2c⟩ := h2
    have hb' := he h2b
    have ha : letA (c : Int) = false := by unfold letA; rw [decide_eq_false_iff_not]; omega
    by_cases h3 : c % 32 * 64 + b1 % 64 ≥ 128
    · have e : Lib.decodeN n c b1 b2 b3 = (c % 32 * 64 + b1 % 64, 2) := by unfold Lib.decodeN; rw [if_neg h1, if_pos ⟨h2a, h2b, h2c⟩, if_pos h3]
      have ev : ((c % 32 * 64 + b1 % 64 : Nat) : Int) = ((c : Int) - 192) * 64 + b - 128 := by omega
      have hl : letN (c : Int) b (decide (1 < n)) = if letR (((c : Int) - 192) * 64 + b - 128) = true then 2 else 0 := by
        unfold letN
        rw [ha, if_neg Bool.false_ne_true, if_neg (by rw [decide_eq_false_iff_not]; omega)]
      have hn1 : nlB ((c % 32 * 64 + b1 % 64 : Nat) : Int) ((2 : Nat) : Int) = letR (((c : Int) - 192) * 64 + b - 128) := by
        unfold nlB
        rw [ev, Bool.eq_iff_iff, decide_eq_true_eq]
        constructor
        · rintro (⟨h, _⟩ | ⟨_, h⟩)
          · omega
          · exact h
        · intro h; exact Or.inr ⟨by omega, h⟩
      rw [e, hl]
      simp only
      rw [hn1]
      refine ⟨?_, ?_, ?_, ?_⟩
      · cases letR (((c : Int) - 192) * 64 + b - 128) <;> simp
      · cases letR (((c : Int) - 192) * 64 + b - 128) <;> simp
      · omega
      · omega
    · have e : Lib.decodeN n c b1 b2 b3 = (65533, 1) := by unfold Lib.decodeN; rw [if_neg h1, if_pos ⟨h2a, h2b, h2c⟩, if_neg h3]
      have hl : letN (c : Int) b (decide (1 < n)) = 0 := by
        unfold letN
        rw [ha, if_neg Bool.false_ne_true, if_pos (Or.inl (by omega))]
      have hn1 : nlB ((65533 : Nat) : Int) ((1 : Nat) : Int) = false := by decide
      rw [e, hl]
      simp only
      rw [hn1]
      refine ⟨by simp, by simp, by omega, by omega⟩
  · have ha : letA (c : Int) = false := by unfold letA; rw [decide_eq_false_iff_not]; omega
    have hl : letN (c : Int) b (decide (1 < n)) = 0 := by
      unfold letN
      rw [ha, if_neg Bool.false_ne_true]
      by_cases hm : 1 < n
      · have hb' := he hm
        rw [if_pos (by
          have : ¬ (c / 32 = 6 ∧ b1 / 64 = 2) := fun hh => h2 ⟨hh.1, hm, hh.2⟩
          omega)]
      · rw [if_pos (Or.inr (Or.inr (Or.inl (decide_eq_false hm))))]
    have hd : (Lib.decodeN n c b1 b2 b3 = (65533, 1)) ∨ (2048 ≤ (Lib.decodeN n c b1 b2 b3).1 ∧ 3 ≤ (Lib.decodeN n c b1 b2 b3).2) := by
      unfold Lib.decodeN
      rw [if_neg h1, if_neg h2]
      split
      · split
        · rename_i hv; exact Or.inr ⟨hv.1, by simp⟩
        · exact Or.inl rfl
      · split
        · split
          · rename_i hv; exact Or.inr ⟨by have := hv.1; simp only; omega, by simp⟩
          · exact Or.inl rfl
        · exact Or.inl rfl
    rw [hl]
    rcases hd with e | ⟨e1, e2⟩
    · have hn1 : nlB ((65533 : Nat) : Int) ((1 : Nat) : Int) = false := by decide
      rw [e]
      simp only
      rw [hn1]
      refine ⟨by simp, by simp, by omega, by omega⟩
    · generalize Lib.decodeN n c b1 b2 b3 = D at *
      have hn1 : nlB (D.1 : Int) (D.2 : Int) = false := by
        unfold nlB
        rw [decide_eq_false_iff_not]
        rintro (⟨h, _⟩ | ⟨h, _⟩) <;> omega
      rw [hn1]
      refine ⟨by simp, by simp, by omega, by omega⟩
/-- How many bytes of a name stand at a place, both. -/
theorem both_run (s : ByteArray) (hs : s.size ≤ 1048576) : ∀ (m i : Nat), s.size - i ≤ m → i ≤ s.size → ∃ r, Ev (fun k => spec_l00Word.l0 k s 0 (i : Int)) r ∧ Ev (fun k => impl_nameRun.l0 k s 0 false (i : Int)) r := by
  intro m
  induction m with
  | zero =>
    intro i h1 h2
    obtain rfl : i = s.size := by omega
    refine ⟨(s.size : Int), ev_some fun k => ?_, ev_some fun k => ?_⟩
    · simp only [spec_l00Word.l0]; rw [if_neg (by omega), wr (by omega) (by omega), Int.sub_zero]
    · simp only [impl_nameRun.l0]; rw [wr (by omega) (by omega), if_neg (by omega)]
  | succ m ih =>
    intro i h1 h2
    by_cases hi : i < s.size
    · obtain ⟨b1, b2, b3, hd, hb, hb1⟩ := dec_at s i hi
      have hc := bt_range s (i : Int)
      have e1 : ((bt s (i : Int)).toNat : Int) = bt s (i : Int) := by omega
      obtain ⟨d1, d2, d3, d4⟩ := dec_step (s.size - i) (bt s (i : Int)).toNat b1 b2 b3 (by omega) hb1 (bt s ((i : Int) + 1)) (fun h => hb (by omega)) (by omega)
      rw [show decide (1 < s.size - i) = decide (i + 1 < s.size) by rw [Bool.eq_iff_iff, decide_eq_true_eq, decide_eq_true_eq]; omega] at d1 d2
      rw [e1] at d1 d2 d3 d4
      have sl := spec_letter s i hi (by omega)
      -- the letter's length
      have hL : ∃ n : Nat, letN (bt s (i : Int)) (bt s ((i : Int) + 1)) (decide (i + 1 < s.size)) = (n : Int) ∧ i + n ≤ s.size := by
        unfold letN
        split
        · exact ⟨1, rfl, by omega⟩
        · split
          · exact ⟨0, rfl, by omega⟩
          · rename_i hz
            split
            · refine ⟨2, rfl, ?_⟩
              rcases Nat.lt_or_ge (i + 1) s.size with hh | hh
              · omega
              · exact absurd (Or.inr (Or.inr (Or.inl (decide_eq_false (by omega))))) hz
            · exact ⟨0, rfl, by omega⟩
      obtain ⟨n, hn, hle⟩ := hL
      rw [hn] at d1 d2 sl
      generalize Lib.decodeN (s.size - i) (bt s (i : Int)).toNat b1 b2 b3 = D at *
      have ired : ∀ k, impl_nameRun.l0 (k + 1) s 0 false (i : Int) = (if nlB (D.1 : Int) (D.2 : Int) = true then (impl_nameRun.l0 k s 0 false (wrap64 ((i : Int) + (D.2 : Int)))) else (if (i : Int) > 0 then (if (D.1 : Int) ≥ 48 then (if (D.1 : Int) ≤ 57 then (impl_nameRun.l0 k s 0 false (wrap64 ((i : Int) + (D.2 : Int)))) else (some (i : Int))) else (some (i : Int))) else some (i : Int))) := by
        intro k
        simp only [impl_nameRun.l0]
        rw [wr (n := 0 + (i : Int)) (by omega) (by omega), if_pos (by omega), if_pos (by omega), if_pos (by omega), show ((0 : Int) + (i : Int)).toNat = i by omega]
        simp only [utf8_DecodeRuneInString.f, hd, Option.bind_some, impl_letter, Bool.false_eq_true, if_false]
      by_cases hz : n = 0
      · subst hz
        have hnl : nlB (D.1 : Int) (D.2 : Int) = false := by
          cases hv : nlB (D.1 : Int) (D.2 : Int) with
          | false => rfl
          | true => exact absurd rfl (d1.1 hv)
        by_cases hdg : 0 < i ∧ 48 ≤ bt s (i : Int) ∧ bt s (i : Int) ≤ 57
        · have h2 := d4 hdg.2
          have h3 := d3.2 hdg.2
          obtain ⟨r, r1, r2⟩ := ih (i + 1) (by omega) (by omega)
          refine ⟨r, ?_, ?_⟩
          · refine ev_one (fun k => by simp only [spec_l00Word.l0]; rw [if_pos (by omega)]) ?_
            refine Ev.bind sl ?_
            simp only [Int.natCast_zero, if_true]
            simp only [if_pos (show (i : Int) > 0 by omega), if_pos (show (0 : Int) ≤ (i : Int) by omega), if_pos (show bt s (i : Int) ≥ 48 by omega), decide_eq_true hdg.2.2]
            refine ev_one (fun k => ?_) r1
            simp only [spec_l00Word.j1, if_true]
            rw [if_neg (by decide), wr_succ i (by omega)]
          · refine ev_one (fun k => ?_) r2
            rw [ired, hnl, if_neg Bool.false_ne_true, if_pos (by omega), if_pos (by omega), if_pos (by omega), h2, wr_succ i (by omega)]
        · refine ⟨(i : Int), ?_, ?_⟩
          · have stop : ∀ x : Bool, x = false → Ev (fun k => spec_l00Word.j1 k s 0 (i : Int) 0 x) (i : Int) := fun x hx => ev_some fun k => by
              subst hx
              simp only [spec_l00Word.j1, Bool.false_eq_true, if_false, if_true]
              rw [wr (by omega) (by omega), Int.sub_zero]
            refine ev_one (fun k => by simp only [spec_l00Word.l0]; rw [if_pos (by omega)]) ?_
            refine Ev.bind sl ?_
            simp only [Int.natCast_zero, if_true]
            by_cases g1 : (i : Int) > 0
            · simp only [if_pos g1, if_pos (show (0 : Int) ≤ (i : Int) by omega)]
              by_cases g2 : bt s (i : Int) ≥ 48
              · simp only [if_pos g2]
                exact stop _ (decide_eq_false (by omega))
              · simp only [if_neg g2]
                exact stop _ rfl
            · simp only [if_neg g1]
              exact stop _ rfl
          · refine ev_some fun k => ?_
            rw [ired, hnl, if_neg Bool.false_ne_true]
            by_cases g1 : (i : Int) > 0
            · rw [if_pos g1]
              by_cases g2 : (D.1 : Int) ≥ 48
              · rw [if_pos g2, if_neg (by
                  intro g3
                  exact hdg ⟨by omega, d3.1 ⟨g2, g3⟩⟩)]
              · rw [if_neg g2]
            · rw [if_neg g1]
      · have hnl : nlB (D.1 : Int) (D.2 : Int) = true := d1.2 (by omega)
        have hs2 := d2 (by omega)
        obtain ⟨r, r1, r2⟩ := ih (i + n) (by omega) (by omega)
        refine ⟨r, ?_, ?_⟩
        · refine ev_one (fun k => by simp only [spec_l00Word.l0]; rw [if_pos (by omega)]) ?_
          refine Ev.bind sl ?_
          simp only [if_neg (show ¬ ((n : Nat) : Int) = 0 by omega)]
          refine ev_one (fun k => ?_) r1
          simp only [spec_l00Word.j1, Bool.false_eq_true, if_false]
          rw [if_neg (by omega), wr (by omega) (by omega), show (i : Int) + (n : Int) = ((i + n : Nat) : Int) by omega]
        · refine ev_one (fun k => ?_) r2
          rw [ired, hnl, if_pos rfl, hs2, wr (by omega) (by omega), show (i : Int) + (n : Int) = ((i + n : Nat) : Int) by omega]
    · obtain rfl : i = s.size := by omega
      refine ⟨(s.size : Int), ev_some fun k => ?_, ev_some fun k => ?_⟩
      · simp only [spec_l00Word.l0]; rw [if_neg (by omega), wr (by omega) (by omega), Int.sub_zero]
      · simp only [impl_nameRun.l0]; rw [wr (by omega) (by omega), if_neg (by omega)]
/-- Whether a string is a name: both tell the same. -/
theorem both_name (s : ByteArray) (hs : s.size ≤ maxLen) : ∃ b, Ev (fun k => spec_NameOK.f k s) b ∧ Ev (fun k => impl_NameOK.f k s) b := by
  unfold maxLen at hs
  unfold spec_NameOK.f impl_NameOK.f
  by_cases h1 : (s.size : Int) > 0
  · by_cases h2 : (s.size : Int) ≤ 40
    · obtain ⟨r, r1, r2⟩ := both_run s (by omega) s.size 0 (by omega) (by omega)
      refine ⟨(r == (s.size : Int)), ?_, ?_⟩
      · simp only [if_pos h1, if_pos h2]
        exact Ev.bind (g := fun k => spec_l00Word.f k s 0) r1 (Ev.now _)
      · simp only [if_pos (show (s.size : Int) ≥ 1 by omega), if_pos h2]
        exact Ev.bind (g := fun k => impl_nameRun.f k s 0 false) r2 (Ev.now _)
    · refine ⟨false, ?_, ?_⟩
      · simp only [if_pos h1, if_neg h2]; exact Ev.now _
      · simp only [if_pos (show (s.size : Int) ≥ 1 by omega), if_neg h2]; exact Ev.now _
  · refine ⟨false, ?_, ?_⟩
    · simp only [if_neg h1]; exact Ev.now _
    · simp only [if_neg (show ¬ (s.size : Int) ≥ 1 by omega)]; exact Ev.now _

theorem ev_uniq {α : Type} {g : Nat → Option α} {a b : α} (h : Ev g a) (h' : Ev g b) : a = b := by
  obtain ⟨K, h⟩ := h
  obtain ⟨K', h'⟩ := h'
  have h1 := h (max K K') (by omega)
  have h2 := h' (max K K') (by omega)
  rw [h1] at h2
  exact Option.some.inj h2
open Classical in
noncomputable def nameB (s : ByteArray) : Bool := if h : s.size ≤ maxLen then Classical.choose (both_name s h) else false
theorem nameB_spec (s : ByteArray) (h : s.size ≤ maxLen) : Ev (fun k => spec_NameOK.f k s) (nameB s) ∧ Ev (fun k => impl_NameOK.f k s) (nameB s) := by
  unfold nameB
  rw [dif_pos h]
  exact Classical.choose_spec (both_name s h)
theorem nameB_size (s : ByteArray) (h : s.size ≤ maxLen) (ht : nameB s = true) : s.size ≤ 40 := by
  have h1 := (nameB_spec s h).1
  rw [ht] at h1
  unfold maxLen at h
  rcases Nat.lt_or_ge 40 s.size with hb | hb
  · have h2 : Ev (fun k => spec_NameOK.f k s) false := by
      unfold spec_NameOK.f
      by_cases h0 : (s.size : Int) > 0
      · simp only [if_pos h0, if_neg (show ¬ (s.size : Int) ≤ 40 by omega)]; exact Ev.now _
      · simp only [if_neg h0]; exact Ev.now _
    exact absurd (ev_uniq h1 h2) (by decide)
  · exact hb
abbrev LK := S58
theorem rdL (l : List LK) (i : Nat) (h : i < l.length) : rd_T58 l (i : Int) = l[i] := by
  unfold rd_T58; simp [h]
def baseL (x : LK) : Bool := decide ((x.f1 = 1 ∨ x.f1 = -1) ∧ -100000 ≤ x.f2 ∧ x.f2 ≤ 100000 ∧ 0 ≤ x.f3 ∧ x.f3 ≤ 100000 ∧ 0 ≤ x.f4 ∧ x.f4 ≤ 100000)
def namesL (l : List LK) : List ByteArray := l.map fun x => x.f0
noncomputable def okL (l : List LK) (i : Nat) : Bool := nameB (rd_T58 l (i : Int)).f0 && baseL (rd_T58 l (i : Int)) && !inB (namesL (l.take i)) (rd_T58 l (i : Int)).f0
open Classical in
noncomputable def linksB (l : List LK) : Bool := if l.length < 1 ∨ l.length > 40 then false else if ∀ i, i < l.length → okL l i = true then true else false
theorem size_ev (n : Int) : spec_l07Size.f n = some (decide (0 ≤ n ∧ n ≤ 100000)) := by
  unfold spec_l07Size.f
  by_cases h : n ≥ 0
  · rw [if_pos h]; congr 1; rw [Bool.eq_iff_iff, decide_eq_true_eq, decide_eq_true_eq]; omega
  · rw [if_neg h, decide_eq_false (by omega)]
theorem spec_red (l : List LK) (i : Nat) (h : i < l.length) (k : Nat) : spec_l07Links.l0 (k + 1) l (i : Int) = (spec_NameOK.f k (rd_T58 l (i : Int)).f0).bind fun t => spec_l07Links.j2 k l (i : Int) (!(t && baseL (rd_T58 l (i : Int)))) (rd_T58 l (i : Int)).f0 (rd_T58 l (i : Int)).f1 (rd_T58 l (i : Int)).f2 (rd_T58 l (i : Int)).f3 (rd_T58 l (i : Int)).f4 := by
  simp only [spec_l07Links.l0]
  rw [if_pos (by omega), if_pos (by omega)]
  congr 1
  funext t
  generalize rd_T58 l (i : Int) = x
  cases t with
  | false => simp
  | true =>
    simp only [if_true, size_ev, Option.bind_some, Bool.true_and]
    by_cases c0 : x.f1 = 1
    · rw [if_pos c0]
      by_cases c1 : x.f2 < -100000
      · rw [if_pos c1, show baseL x = false from decide_eq_false (by omega)]; rfl
      · rw [if_neg c1]
        by_cases c2 : x.f2 > 100000
        · rw [if_pos c2, show baseL x = false from decide_eq_false (by omega)]; rfl
        · rw [if_neg c2]
          by_cases c3 : 0 ≤ x.f3 ∧ x.f3 ≤ 100000
          · rw [if_pos (decide_eq_true c3)]
            congr 2
            unfold baseL
            rw [Bool.eq_iff_iff, decide_eq_true_eq, decide_eq_true_eq]; omega
          · rw [if_neg (by rw [decide_eq_true_eq]; exact c3), show baseL x = false from decide_eq_false (by omega)]; rfl
    · rw [if_neg c0]
      by_cases c0' : x.f1 = -1
      · rw [if_pos c0']
        by_cases c1 : x.f2 < -100000
        · rw [if_pos c1, show baseL x = false from decide_eq_false (by omega)]; rfl
        · rw [if_neg c1]
          by_cases c2 : x.f2 > 100000
          · rw [if_pos c2, show baseL x = false from decide_eq_false (by omega)]; rfl
          · rw [if_neg c2]
            by_cases c3 : 0 ≤ x.f3 ∧ x.f3 ≤ 100000
            · rw [if_pos (decide_eq_true c3)]
              congr 2
              unfold baseL
              rw [Bool.eq_iff_iff, decide_eq_true_eq, decide_eq_true_eq]; omega
            · rw [if_neg (by rw [decide_eq_true_eq]; exact c3), show baseL x = false from decide_eq_false (by omega)]; rfl
      · rw [if_neg c0', show baseL x = false from decide_eq_false (by omega)]; rfl
theorem inB_take (l : List LK) (i : Nat) (h : i ≤ l.length) (s : ByteArray) : inB (namesL (l.take i)) s = false ↔ ∀ j, j < i → ¬ (rd_T58 l (j : Int)).f0.toList = s.toList := by
  unfold inB namesL
  rw [List.any_eq_false]
  constructor
  · intro hh j hj he
    have hm : (rd_T58 l (j : Int)).f0 ∈ (l.take i).map fun x => x.f0 := by
      rw [rdL l j (by omega)]
      refine List.mem_map.2 ⟨l[j], ?_, rfl⟩
      rw [List.mem_take_iff_getElem]
      exact ⟨j, by omega, rfl⟩
    refine hh _ hm ?_
    rw [beq_iff_eq, ← Lib.toList_data, ← Lib.toList_data]; exact he
  · intro hh t ht he
    obtain ⟨x, hx, rfl⟩ := List.mem_map.1 ht
    rw [List.mem_take_iff_getElem] at hx
    obtain ⟨j, hj, rfl⟩ := hx
    refine hh j (by omega) ?_
    rw [rdL l j (by omega), Lib.toList_data, Lib.toList_data]
    exact beq_iff_eq.1 he
theorem spec_dup (l : List LK) (hl : l.length ≤ 40) (i : Nat) (h : i < l.length) {s : ByteArray} {b c d e : Int} {q : Bool} (hq : Ev (fun k => if inB (namesL (l.take i)) s = true then some false else spec_l07Links.l0 k l ((i + 1 : Nat) : Int)) q) : Ev (fun k => spec_l07Links.l1 k l (i : Int) 0 s b c d e) q := by
  have key : ∀ (m j : Nat), j + m = i → (∀ j', j' < j → ¬ (rd_T58 l (j' : Int)).f0.toList = s.toList) → Ev (fun k => spec_l07Links.l1 k l (i : Int) (j : Int) s b c d e) q := by
    intro m
    induction m with
    | zero =>
      intro j hj hn
      obtain rfl : j = i := by omega
      have hi : inB (namesL (l.take j)) s = false := (inB_take l j (by omega) s).2 hn
      simp only [hi, Bool.false_eq_true, if_false] at hq
      refine ev_one (fun k => ?_) hq
      simp only [spec_l07Links.l1]
      rw [if_neg (by omega), wr_succ j (by omega)]
    | succ m ih =>
      intro j hj hn
      by_cases he : (rd_T58 l (j : Int)).f0.toList = s.toList
      · have hi : inB (namesL (l.take i)) s = true := by
          cases hv : inB (namesL (l.take i)) s with
          | true => rfl
          | false => exact absurd he ((inB_take l i (by omega) s).1 hv j (by omega))
        simp only [hi, if_true] at hq
        refine ev_one (f := fun _ => some false) (fun k => ?_) hq
        simp only [spec_l07Links.l1]
        rw [if_pos (by omega), if_pos (by omega), if_pos (by omega), if_pos he]
      · refine ev_one (fun k => ?_) (ih (j + 1) (by omega) (fun j' hj' => by
          rcases Nat.lt_or_ge j' j with h1 | h1
          · exact hn j' h1
          · obtain rfl : j' = j := by omega
            exact he))
        simp only [spec_l07Links.l1]
        rw [if_pos (by omega), if_pos (by omega), if_pos (by omega), if_neg he, wr_succ j (by omega)]
  exact key i 0 (by omega) (fun j' hj' => by omega)
theorem spec_links (l : List LK) (hn : l.length ≤ 1048576) (hs : ∀ x ∈ l, x.f0.size ≤ maxLen) : Ev (fun k => spec_l07Links.f k l) (linksB l) := by
  unfold spec_l07Links.f linksB
  by_cases h1 : (l.length : Int) < 1
  · simp only [if_pos h1]; rw [if_pos (Or.inl (by omega))]; exact ev_some fun k => by simp only [spec_l07Links.j0, if_true]
  simp only [if_neg h1]
  by_cases h2 : (l.length : Int) > 40
  · simp only [decide_eq_true h2]; rw [if_pos (Or.inr (by omega))]; exact ev_some fun k => by simp only [spec_l07Links.j0, if_true]
  simp only [decide_eq_false h2]
  rw [if_neg (by omega)]
  refine ev_one (f := fun k => spec_l07Links.l0 k l 0) (fun k => by simp only [spec_l07Links.j0, Bool.false_eq_true, if_false]) ?_
  refine all_steps (fun i k => spec_l07Links.l0 k l (i : Int)) l.length (okL l) (fun i hi hp q hq => ?_) (fun i hi hp => ?_) (fun _ => ev_some fun k => by
    show spec_l07Links.l0 (k + 1) l (l.length : Int) = _
    simp only [spec_l07Links.l0]; rw [if_neg (by omega)])
  · have hsz : (rd_T58 l (i : Int)).f0.size ≤ maxLen := by rw [rdL l i hi]; exact hs _ (List.getElem_mem hi)
    unfold okL at hp
    simp only [Bool.and_eq_true, Bool.not_eq_true'] at hp
    refine ev_one (spec_red l i hi) ?_
    refine Ev.bind (nameB_spec _ hsz).1 ?_
    simp only [hp.1.1, hp.1.2, Bool.and_self, Bool.not_true]
    refine ev_one (fun k => by simp only [spec_l07Links.j2, Bool.false_eq_true, if_false]; rfl) ?_
    refine spec_dup l (by omega) i hi ?_
    simp only [hp.2, Bool.false_eq_true, if_false]
    exact hq
  · have hsz : (rd_T58 l (i : Int)).f0.size ≤ maxLen := by rw [rdL l i hi]; exact hs _ (List.getElem_mem hi)
    unfold okL at hp
    refine ev_one (spec_red l i hi) ?_
    refine Ev.bind (nameB_spec _ hsz).1 ?_
    cases hb : (nameB (rd_T58 l (i : Int)).f0 && baseL (rd_T58 l (i : Int))) with
    | false => exact ev_some fun k => by simp only [spec_l07Links.j2, Bool.not_false, if_true]
    | true =>
      rw [hb, Bool.true_and] at hp
      have hp' : inB (namesL (l.take i)) (rd_T58 l (i : Int)).f0 = true := by simpa using hp
      simp only [Bool.not_true]
      refine ev_one (fun k => by simp only [spec_l07Links.j2, Bool.false_eq_true, if_false]; rfl) ?_
      refine spec_dup l (by omega) i hi ?_
      simp only [hp', if_true]
      exact Ev.now _
theorem impl_red (l : List LK) (i : Nat) (h : i < l.length) (S : List ByteArray) (k : Nat) : impl_linksOK.l0 (k + 1) S l (l.length : Int) (i : Int) = (impl_NameOK.f k (rd_T58 l (i : Int)).f0).bind fun t => if t = true then (if (rd_T58 l (i : Int)).f0.size ≤ 40 then (if S.length < 1000 then (if inB S (rd_T58 l (i : Int)).f0 = true then some false else (if baseL (rd_T58 l (i : Int)) = true then impl_linksOK.l0 k (S ++ [(rd_T58 l (i : Int)).f0]) l (l.length : Int) (wrap64 ((i : Int) + 1)) else some false)) else none) else none) else some false := by
  rw [impl_linksOK.l0, if_pos (by omega), if_pos (by omega), if_pos (by omega)]
  congr 1
  funext t
  generalize rd_T58 l (i : Int) = x
  cases t with
  | false => rfl
  | true =>
    rw [if_pos rfl, if_pos rfl]
    by_cases c1 : x.f0.size ≤ 40
    · rw [if_pos c1, if_pos c1]
      by_cases c2 : S.length < 1000
      · rw [if_pos c2, if_pos c2]
        by_cases c3 : inB S x.f0 = true
        · rw [if_pos c3, if_pos c3]
        · rw [if_neg c3, if_neg c3]
          generalize impl_linksOK.l0 k (S ++ [x.f0]) l (l.length : Int) (wrap64 ((i : Int) + 1)) = R
          by_cases cb : baseL x = true
          · rw [if_pos cb]
            unfold baseL at cb
            rw [decide_eq_true_eq] at cb
            obtain ⟨b0, b1, b2, b3, b4, b5, b6⟩ := cb
            by_cases c4 : x.f1 = 1
            · rw [if_pos c4, if_neg (by omega), if_neg (by omega), if_neg (by omega), if_neg (by omega), if_neg (by omega), if_neg (by omega)]
            · rw [if_neg c4, if_pos (by omega), if_neg (by omega), if_neg (by omega), if_neg (by omega), if_neg (by omega), if_neg (by omega), if_neg (by omega)]
          · rw [if_neg cb]
            unfold baseL at cb
            rw [decide_eq_true_eq] at cb
            have last : ∀ (z : Prop), (x.f1 = 1 ∨ x.f1 = -1) → (if x.f2 < -100000 then some false else if x.f2 > 100000 then some false else if x.f3 < 0 then some false else if x.f3 > 100000 then some false else if x.f4 < 0 then some false else if x.f4 > 100000 then some false else R) = some false := by
              intro _ hs
              by_cases d1 : x.f2 < -100000
              · rw [if_pos d1]
              rw [if_neg d1]
              by_cases d2 : x.f2 > 100000
              · rw [if_pos d2]
              rw [if_neg d2]
              by_cases d3 : x.f3 < 0
              · rw [if_pos d3]
              rw [if_neg d3]
              by_cases d4 : x.f3 > 100000
              · rw [if_pos d4]
              rw [if_neg d4]
              by_cases d5 : x.f4 < 0
              · rw [if_pos d5]
              rw [if_neg d5, if_pos (by omega)]
            by_cases c4 : x.f1 = 1
            · rw [if_pos c4]; exact last True (Or.inl c4)
            · rw [if_neg c4]
              by_cases c5 : x.f1 = -1
              · rw [if_pos c5]; exact last True (Or.inr c5)
              · rw [if_neg c5]
      · rw [if_neg c2, if_neg c2]
    · rw [if_neg c1, if_neg c1]
theorem impl_links (l : List LK) (hn : l.length ≤ 1048576) (hs : ∀ x ∈ l, x.f0.size ≤ maxLen) : Ev (fun k => impl_linksOK.f k l) (linksB l) := by
  unfold impl_linksOK.f linksB
  by_cases h1 : (l.length : Int) < 1
  · simp only [if_pos h1]; rw [if_pos (Or.inl (by omega))]; exact ev_some fun k => by simp only [impl_linksOK.j0, if_true]
  simp only [if_neg h1]
  by_cases h2 : (l.length : Int) > 40
  · simp only [decide_eq_true h2]; rw [if_pos (Or.inr (by omega))]; exact ev_some fun k => by simp only [impl_linksOK.j0, if_true]
  simp only [decide_eq_false h2]
  rw [if_neg (by omega)]
  refine ev_one (f := fun k => impl_linksOK.l0 k [] l (l.length : Int) 0) (fun k => by simp only [impl_linksOK.j0, Bool.false_eq_true, if_false]) ?_
  refine all_steps (fun i k => impl_linksOK.l0 k (namesL (l.take i)) l (l.length : Int) (i : Int)) l.length (okL l) (fun i hi hp q hq => ?_) (fun i hi hp => ?_) (fun _ => ev_some fun k => by
    show impl_linksOK.l0 (k + 1) _ l (l.length : Int) (l.length : Int) = _
    simp only [impl_linksOK.l0]; rw [if_neg (by omega)])
  · have hsz : (rd_T58 l (i : Int)).f0.size ≤ maxLen := by rw [rdL l i hi]; exact hs _ (List.getElem_mem hi)
    unfold okL at hp
    simp only [Bool.and_eq_true, Bool.not_eq_true'] at hp
    refine ev_one (impl_red l i hi _) ?_
    refine Ev.bind (nameB_spec _ hsz).2 ?_
    simp only [hp.1.1, hp.1.2, hp.2, if_true, Bool.false_eq_true, if_false]
    simp only [if_pos (nameB_size _ hsz hp.1.1), if_pos (show (namesL (l.take i)).length < 1000 by simp [namesL]; omega)]
    rw [wr_succ i (by omega)]
    have e : namesL (l.take i) ++ [(rd_T58 l (i : Int)).f0] = namesL (l.take (i + 1)) := by
      rw [rdL l i hi]; unfold namesL; rw [List.take_succ_eq_append_getElem hi, List.map_append]; rfl
    rw [e]
    exact hq
  · have hsz : (rd_T58 l (i : Int)).f0.size ≤ maxLen := by rw [rdL l i hi]; exact hs _ (List.getElem_mem hi)
    unfold okL at hp
    refine ev_one (impl_red l i hi _) ?_
    refine Ev.bind (nameB_spec _ hsz).2 ?_
    cases hb : nameB (rd_T58 l (i : Int)).f0 with
    | false => simp only [Bool.false_eq_true, if_false]; exact Ev.now _
    | true =>
      simp only [if_true, if_pos (nameB_size _ hsz hb), if_pos (show (namesL (l.take i)).length < 1000 by simp [namesL]; omega)]
      rw [hb, Bool.true_and] at hp
      cases hd : inB (namesL (l.take i)) (rd_T58 l (i : Int)).f0 with
      | true => simp only [if_true]; exact Ev.now _
      | false =>
        rw [hd] at hp
        have hp' : baseL (rd_T58 l (i : Int)) = false := by simpa using hp
        simp only [hp', Bool.false_eq_true, if_false]; exact Ev.now _
theorem links_base {l : List LK} (h : linksB l = true) : l.length ≤ 40 ∧ ∀ i, i < l.length → baseL (rd_T58 l (i : Int)) = true := by
  unfold linksB at h
  split at h
  · cases h
  · split at h
    · rename_i h1 h2
      refine ⟨by omega, fun i hi => ?_⟩
      have := h2 i hi
      unfold okL at this
      simp only [Bool.and_eq_true] at this
      exact this.1.2
    · cases h
/-- Both sum up alike. -/
theorem both_chain (l : List LK) (hl : l.length ≤ 40) (hb : ∀ i, i < l.length → baseL (rd_T58 l (i : Int)) = true) : ∃ a b c d, Ev (fun k => spec_l07Chain.f k l) (a, b, c, d) ∧ Ev (fun k => impl_ChainOf.l0 k l (l.length : Int) 0 0 0 0 0) (a, b, c, d, (0 : Int)) := by
  have key : ∀ (m i : Nat) (a b s : Int), i + m = l.length → ∃ a' b' c' d', Ev (fun k => spec_l07Chain.l0 k l (i : Int) a b 0 s) (a', b', c', d') ∧ Ev (fun k => impl_ChainOf.l0 k l (l.length : Int) (i : Int) a b 0 s) (a', b', c', d', (0 : Int)) := by
    intro m
    induction m with
    | zero =>
      intro i a b s hi
      obtain rfl : i = l.length := by omega
      exact ⟨_, _, _, _, ev_some fun k => by simp only [spec_l07Chain.l0]; rw [if_neg (by omega)], ev_some fun k => by simp only [impl_ChainOf.l0]; rw [if_neg (by omega)]⟩
    | succ m ih =>
      intro i a b s hi
      have hx := hb i (by omega)
      unfold baseL at hx
      rw [decide_eq_true_eq] at hx
      by_cases c : (rd_T58 l (i : Int)).f1 < 0
      · obtain ⟨a', b', c', d', h1, h2⟩ := ih (i + 1) (wrap64 (a + (-(rd_T58 l (i : Int)).f2 - (rd_T58 l (i : Int)).f3))) (wrap64 (b + (-(rd_T58 l (i : Int)).f2 + (rd_T58 l (i : Int)).f4))) (wrap64 (s + (wrap64 ((wrap64 (((rd_T58 l (i : Int)).f3) + ((rd_T58 l (i : Int)).f4))) * (wrap64 (((rd_T58 l (i : Int)).f3) + ((rd_T58 l (i : Int)).f4))))))) (by omega)
        refine ⟨a', b', c', d', ev_one (fun k => ?_) h1, ev_one (fun k => ?_) h2⟩
        · simp only [spec_l07Chain.l0]
          rw [if_pos (by omega), if_pos (by omega), if_pos c, wr_succ i (by omega), wr (n := -(rd_T58 l (i : Int)).f2) (by omega) (by omega), wr (n := -(rd_T58 l (i : Int)).f2 - (rd_T58 l (i : Int)).f3) (by omega) (by omega), wr (n := -(rd_T58 l (i : Int)).f2 + (rd_T58 l (i : Int)).f4) (by omega) (by omega)]
        · simp only [impl_ChainOf.l0]
          rw [if_pos (by omega), if_pos (by omega), if_pos (by omega), if_pos c, wr_succ i (by omega), wr (n := (rd_T58 l (i : Int)).f2 + (rd_T58 l (i : Int)).f3) (by omega) (by omega), wr (n := (rd_T58 l (i : Int)).f2 - (rd_T58 l (i : Int)).f4) (by omega) (by omega), wr (n := -((rd_T58 l (i : Int)).f2 + (rd_T58 l (i : Int)).f3)) (by omega) (by omega), wr (n := -((rd_T58 l (i : Int)).f2 - (rd_T58 l (i : Int)).f4)) (by omega) (by omega),
            show -((rd_T58 l (i : Int)).f2 + (rd_T58 l (i : Int)).f3) = -(rd_T58 l (i : Int)).f2 - (rd_T58 l (i : Int)).f3 by omega, show -((rd_T58 l (i : Int)).f2 - (rd_T58 l (i : Int)).f4) = -(rd_T58 l (i : Int)).f2 + (rd_T58 l (i : Int)).f4 by omega]
      · obtain ⟨a', b', c', d', h1, h2⟩ := ih (i + 1) (wrap64 (a + (wrap64 ((rd_T58 l (i : Int)).f2 - (rd_T58 l (i : Int)).f4)))) (wrap64 (b + (wrap64 ((rd_T58 l (i : Int)).f2 + (rd_T58 l (i : Int)).f3)))) (wrap64 (s + (wrap64 ((wrap64 (((rd_T58 l (i : Int)).f3) + ((rd_T58 l (i : Int)).f4))) * (wrap64 (((rd_T58 l (i : Int)).f3) + ((rd_T58 l (i : Int)).f4))))))) (by omega)
        refine ⟨a', b', c', d', ev_one (fun k => ?_) h1, ev_one (fun k => ?_) h2⟩
        · simp only [spec_l07Chain.l0]
          rw [if_pos (by omega), if_pos (by omega), if_neg c, wr_succ i (by omega)]
        · simp only [impl_ChainOf.l0]
          rw [if_pos (by omega), if_pos (by omega), if_pos (by omega), if_neg c, wr_succ i (by omega)]
  exact key l.length 0 0 0 0 (by omega)
def lkConv (x : S55) : LK := ⟨x.f0, x.f1, x.f2, x.f3, x.f4⟩
theorem copy_links (l : List S55) (h : l.length ≤ 1048576) : Ev (fun k => laws_toLinkS.f k l) (l.map lkConv) := by
  have := copy_loop laws_toLinkS.l0 lkConv z55 (fun k x0 x3 i h1 h2 => by
    simp only [laws_toLinkS.l0, laws_toLink.f, Option.bind_some]
    rw [if_pos (by omega), if_pos (by omega), if_pos (by omega)]
    rfl) (fun k x0 x3 => by simp only [laws_toLinkS.l0]; rw [if_neg (by omega)]) l (by omega) (List.replicate l.length z58) (by simp)
  unfold laws_toLinkS.f
  simp only [show (0 : Int) ≤ (l.length : Int) from by omega, if_true, Int.toNat_natCast, show l.length ≤ 5864062014805 from by omega]
  exact this
theorem same_links (l : List LK) (h : l.length ≤ 1048576) : Ev (fun k => laws_eqLinkS.f k l l) true := by
  unfold laws_eqLinkS.f
  simp only [if_true]
  exact same_loop laws_eqLinkS.l0 l (fun k i hi => by
    simp only [laws_eqLinkS.l0, laws_eqLink.f, if_true, Option.bind_some]
    rw [if_pos (by omega), if_pos (by omega), if_pos (by omega)]) (fun k => by simp only [laws_eqLinkS.l0]; rw [if_neg (by omega)]) (by omega)
theorem sz_links (l : List S55) (hl : l.length ≤ maxLen) (hs : ∀ x ∈ l, x.f0.size ≤ maxLen) : ∃ r, Ev (fun k => laws_szLinkS.f k l 1048576) r ∧ (0 ≤ r → l.length ≤ 1048576) := by
  unfold maxLen at hl
  unfold laws_szLinkS.f
  rw [wr (n := 1048576 - (l.length : Int)) (by omega) (by omega)]
  by_cases h : 1048576 - (l.length : Int) < 0
  · simp only [if_pos h]; exact ⟨-1, Ev.now _, fun h => by omega⟩
  simp only [if_neg h]
  have key : ∀ (m i : Nat) (a : Int), i + m = l.length → 0 ≤ a → a ≤ 1048576 → ∃ r, Ev (fun k => laws_szLinkS.l0 k l a (i : Int)) r := by
    intro m
    induction m with
    | zero =>
      intro i a hi h0 h1
      obtain rfl : i = l.length := by omega
      exact ⟨a, ev_some fun k => by simp only [laws_szLinkS.l0]; rw [if_neg (by omega)]⟩
    | succ m ih =>
      intro i a hi h0 h1
      have hz : (rd_T55 l (i : Int)).f0.size ≤ maxLen := by
        have e : rd_T55 l (i : Int) = l[i]'(by omega) := by unfold rd_T55; simp [show i < l.length by omega]
        rw [e]; exact hs _ (List.getElem_mem _)
      unfold maxLen at hz
      by_cases hc : a - ((rd_T55 l (i : Int)).f0.size : Int) < 0
      · refine ⟨-1, ev_some fun k => ?_⟩
        simp only [laws_szLinkS.l0, laws_szLink.f]
        rw [if_pos (by omega), if_pos (by omega), wr (by omega) (by omega), if_pos hc]
        rfl
      · obtain ⟨r, hr⟩ := ih (i + 1) (a - ((rd_T55 l (i : Int)).f0.size : Int)) (by omega) (by omega) (by omega)
        refine ⟨r, ev_one (fun k => ?_) hr⟩
        simp only [laws_szLinkS.l0, laws_szLink.f]
        rw [if_pos (by omega), if_pos (by omega), wr (by omega) (by omega), if_neg hc]
        simp only [Option.bind_some]
        rw [if_neg hc, wr_succ i (by omega)]
  obtain ⟨r, hr⟩ := key l.length 0 (1048576 - (l.length : Int)) (by omega) (by omega) (by omega)
  exact ⟨r, hr, fun _ => by omega⟩

theorem both_out (l : List LK) (hl : l.length ≤ 40) (tw : Int) : ∃ out, Ev (fun k => spec_ChainSafe.l0 k l tw [] 0) (false, out, 0) ∧ Ev (fun k => impl_ChainSafe.l0 k tw [] l (l.length : Int) 0) (false, out, 0) ∧ out.length ≤ 40 := by
  have key : ∀ (m i : Nat) (o : List Int), i + m = l.length → o.length = i → ∃ out, Ev (fun k => spec_ChainSafe.l0 k l tw o (i : Int)) (false, out, 0) ∧ Ev (fun k => impl_ChainSafe.l0 k tw o l (l.length : Int) (i : Int)) (false, out, 0) ∧ out.length ≤ 40 := by
    intro m
    induction m with
    | zero =>
      intro i o hi ho
      obtain rfl : i = l.length := by omega
      exact ⟨o, ev_some fun k => by simp only [spec_ChainSafe.l0]; rw [if_neg (by omega)], ev_some fun k => by simp only [impl_ChainSafe.l0]; rw [if_neg (by omega)], by omega⟩
    | succ m ih =>
      intro i o hi ho
      by_cases c3 : (rd_T58 l (i : Int)).f3 = 0
      · by_cases c4 : (rd_T58 l (i : Int)).f4 = 0
        · obtain ⟨out, h1, h2, h3⟩ := ih (i + 1) (o ++ [0]) (by omega) (by simp; omega)
          refine ⟨out, ev_one (fun k => ?_) h1, ev_one (fun k => ?_) h2, h3⟩
          · simp only [spec_ChainSafe.l0]; rw [if_pos (by omega), if_pos (by omega), if_pos c3, if_pos c4, if_pos (by omega), wr_succ i (by omega)]
          · simp only [impl_ChainSafe.l0]; rw [if_pos (by omega), if_pos (by omega), if_pos (by omega), if_pos c3, if_pos c4, if_pos (by omega), wr_succ i (by omega)]
        · obtain ⟨out, h1, h2, h3⟩ := ih (i + 1) (o ++ [wrap64 (tw * (rd_T58 l (i : Int)).f1)]) (by omega) (by simp; omega)
          refine ⟨out, ev_one (fun k => ?_) h1, ev_one (fun k => ?_) h2, h3⟩
          · simp only [spec_ChainSafe.l0]; rw [if_pos (by omega), if_pos (by omega), if_pos c3, if_neg c4, if_pos (by omega), wr_succ i (by omega)]
          · simp only [impl_ChainSafe.l0]; rw [if_pos (by omega), if_pos (by omega), if_pos (by omega), if_pos c3, if_neg c4, if_pos (by omega), wr_succ i (by omega)]
      · obtain ⟨out, h1, h2, h3⟩ := ih (i + 1) (o ++ [wrap64 (tw * (rd_T58 l (i : Int)).f1)]) (by omega) (by simp; omega)
        refine ⟨out, ev_one (fun k => ?_) h1, ev_one (fun k => ?_) h2, h3⟩
        · simp only [spec_ChainSafe.l0]; rw [if_pos (by omega), if_pos (by omega), if_neg c3, if_pos (by omega), wr_succ i (by omega)]
        · simp only [impl_ChainSafe.l0]; rw [if_pos (by omega), if_pos (by omega), if_pos (by omega), if_neg c3, if_pos (by omega), wr_succ i (by omega)]
  exact key l.length 0 [] (by omega) rfl
theorem both_safe (l : List LK) (low high : Int) (hn : l.length ≤ 1048576) (hs : ∀ x ∈ l, x.f0.size ≤ maxLen) : ∃ b o c, Ev (fun k => spec_ChainSafe.f k l low high) (b, o, c) ∧ Ev (fun k => impl_ChainSafe.f k l low high) (b, o, c) ∧ o.length ≤ 40 := by
  unfold spec_ChainSafe.f impl_ChainSafe.f
  by_cases h : (l.length : Int) > 4096
  · simp only [if_pos h]
    refine ⟨false, [], 2, Ev.now _, ?_, by simp⟩
    refine Ev.bind (g := fun k => impl_ChainOf.f k l) (a := (0, 0, 0, 0, 2)) (by unfold impl_ChainOf.f; simp only [if_pos h]; exact Ev.now _) ?_
    simp only [if_neg (show ¬ (2 : Int) = 0 by decide)]; exact Ev.now _
  simp only [if_neg h]
  have sl := spec_links l hn hs
  have il := impl_links l hn hs
  cases hb : linksB l with
  | false =>
    rw [hb] at sl il
    refine ⟨false, [], 1, Ev.bind sl ?_, ?_, by simp⟩
    · simp only [Bool.false_eq_true, if_false]; exact Ev.now _
    · refine Ev.bind (g := fun k => impl_ChainOf.f k l) (a := (0, 0, 0, 0, 1)) (by unfold impl_ChainOf.f; simp only [if_neg h]; refine Ev.bind il ?_; simp only [Bool.false_eq_true, if_false]; exact Ev.now _) ?_
      simp only [if_neg (show ¬ (1 : Int) = 0 by decide)]; exact Ev.now _
  | true =>
    rw [hb] at sl il
    obtain ⟨h1, h2⟩ := links_base hb
    obtain ⟨a, b, c, d, s, i⟩ := both_chain l h1 h2
    have ic : Ev (fun k => impl_ChainOf.f k l) (a, b, c, d, 0) := by
      unfold impl_ChainOf.f; simp only [if_neg h]; refine Ev.bind il ?_; simp only [if_true]; exact i
    obtain ⟨o1, s1, i1, n1⟩ := both_out l h1 1
    obtain ⟨o2, s2, i2, n2⟩ := both_out l h1 (-1)
    by_cases c1 : a ≥ low
    · by_cases c2 : b ≤ high
      · refine ⟨true, [], 0, Ev.bind sl ?_, Ev.bind ic ?_, by simp⟩
        · simp only [if_true]
          refine Ev.bind s ?_
          simp only [if_pos c1, decide_eq_true c2]
          exact ev_some fun k => by simp only [spec_ChainSafe.j0, if_true]
        · simp only [if_true, if_pos c1, decide_eq_true c2]
          exact ev_some fun k => by simp only [impl_ChainSafe.j0, if_true]
      · refine ⟨false, o1, 0, Ev.bind sl ?_, Ev.bind ic ?_, n1⟩
        · simp only [if_true]
          refine Ev.bind s ?_
          simp only [if_pos c1, decide_eq_false c2]
          refine ev_one (fun k => by simp only [spec_ChainSafe.j0, Bool.false_eq_true, if_false, if_pos c1]; rfl) ?_
          exact ev_one (fun k => by simp only [spec_ChainSafe.j1]) s1
        · simp only [if_true, if_pos c1, decide_eq_false c2]
          refine ev_one (fun k => by simp only [impl_ChainSafe.j0, Bool.false_eq_true, if_false, if_neg (show ¬ a < low by omega)]; rfl) ?_
          exact ev_one (fun k => by simp only [impl_ChainSafe.j1]) i1
    · refine ⟨false, o2, 0, Ev.bind sl ?_, Ev.bind ic ?_, n2⟩
      · simp only [if_true]
        refine Ev.bind s ?_
        simp only [if_neg c1]
        refine ev_one (fun k => by simp only [spec_ChainSafe.j0, Bool.false_eq_true, if_false, if_neg c1]; rfl) ?_
        exact ev_one (fun k => by simp only [spec_ChainSafe.j1]) s2
      · simp only [if_true, if_neg c1]
        refine ev_one (fun k => by simp only [impl_ChainSafe.j0, Bool.false_eq_true, if_false, if_pos (show a < low by omega)]; rfl) ?_
        exact ev_one (fun k => by simp only [impl_ChainSafe.j1]) i2
theorem mark_text (n : Nat) (h1 : 1 ≤ n) (h2 : n ≤ 100000000) : ∃ r, Ev (fun k => laws_markText.f k (n : Int)) r := by
  have key : ∀ (n : Nat) (x : ByteArray), x.size + n ≤ 100000000 → ∃ r, Ev (fun k => laws_markText.l0 k (n : Int) x) r := by
    intro n
    induction n using Nat.strongRecOn with
    | _ n ih =>
      intro x hx
      by_cases h : n = 0
      · subst h
        refine ⟨(⟨#[109]⟩ : ByteArray) ++ x, ev_some fun k => ?_⟩
        simp only [laws_markText.l0]
        rw [if_neg (by omega), if_pos (by omega)]
      · have e1 : Int.tdiv (n : Int) 10 = ((n / 10 : Nat) : Int) := rfl
        have hz : (strOfNums [(wrap64 (48 + (Int.tmod (n : Int) 10))) % 256]).size = 1 := by rw [strOfNums_size]; rfl
        obtain ⟨r, hr⟩ := ih (n / 10) (by omega) (strOfNums [(wrap64 (48 + (Int.tmod (n : Int) 10))) % 256] ++ x) (by rw [ByteArray.size_append, hz]; omega)
        refine ⟨r, ev_one (fun k => ?_) hr⟩
        simp only [laws_markText.l0]
        rw [if_pos (by omega)]
        simp only [Option.bind_some]
        rw [if_pos (by rw [hz]; omega), e1, wr (by omega) (by omega)]
  obtain ⟨r, hr⟩ := key n ⟨#[]⟩ (by show 0 + n ≤ _; omega)
  exact ⟨r, by unfold laws_markText.f; simp only [if_neg (show ¬ (n : Int) ≤ 0 by omega)]; exact hr⟩
theorem mark_links (n : Nat) (hn : n ≤ 1048576) : ∀ (m i : Nat) (x : List LK), i + m = n → x.length = n → ∃ x', Ev (fun k => laws_markLinkS.l0 k x (1 + 5 * (i : Int)) (i : Int)) (1 + 5 * (n : Int), x') := by
  intro m
  induction m with
  | zero =>
    intro i x hi hx
    obtain rfl : i = n := by omega
    exact ⟨x, ev_some fun k => by simp only [laws_markLinkS.l0]; rw [if_neg (by omega)]⟩
  | succ m ih =>
    intro i x hi hx
    obtain ⟨t, ht⟩ := mark_text (1 + 5 * i) (by omega) (by omega)
    have ht : Ev (fun k => laws_markText.f k (1 + 5 * (i : Int))) t := by
      have e : ((1 + 5 * i : Nat) : Int) = 1 + 5 * (i : Int) := by omega
      rw [e] at ht; exact ht
    have step : ∀ y : List LK, y.length = n → ∃ x', Ev (fun k => laws_markLinkS.l0 k y (1 + 5 * ((i + 1 : Nat) : Int)) ((i + 1 : Nat) : Int)) (1 + 5 * (n : Int), x') := fun y hy => ih (i + 1) y (by omega) hy
    have ex : ∃ y : List LK, y.length = n ∧ ∀ k, ((some (x.set (i : Int).toNat (⟨t, (rd_T58 x (i : Int)).f1, (rd_T58 x (i : Int)).f2, (rd_T58 x (i : Int)).f3, (rd_T58 x (i : Int)).f4⟩ : LK) : List LK)).bind fun y202 => ((some (y202.set (i : Int).toNat (⟨(rd_T58 y202 (i : Int)).f0, wrap64 ((1 + 5 * (i : Int)) + 1), (rd_T58 y202 (i : Int)).f2, (rd_T58 y202 (i : Int)).f3, (rd_T58 y202 (i : Int)).f4⟩ : LK) : List LK)).bind fun y203 => ((some (y203.set (i : Int).toNat (⟨(rd_T58 y203 (i : Int)).f0, (rd_T58 y203 (i : Int)).f1, wrap64 ((wrap64 ((1 + 5 * (i : Int)) + 1)) + 1), (rd_T58 y203 (i : Int)).f3, (rd_T58 y203 (i : Int)).f4⟩ : LK) : List LK)).bind fun y204 => ((some (y204.set (i : Int).toNat (⟨(rd_T58 y204 (i : Int)).f0, (rd_T58 y204 (i : Int)).f1, (rd_T58 y204 (i : Int)).f2, wrap64 ((wrap64 ((wrap64 ((1 + 5 * (i : Int)) + 1)) + 1)) + 1), (rd_T58 y204 (i : Int)).f4⟩ : LK) : List LK)).bind fun y205 => (laws_markLinkS.l0 k (y205.set (i : Int).toNat (⟨(rd_T58 y205 (i : Int)).f0, (rd_T58 y205 (i : Int)).f1, (rd_T58 y205 (i : Int)).f2, (rd_T58 y205 (i : Int)).f3, wrap64 ((wrap64 ((wrap64 ((wrap64 ((1 + 5 * (i : Int)) + 1)) + 1)) + 1)) + 1)⟩ : LK)) (wrap64 ((wrap64 ((wrap64 ((wrap64 ((wrap64 ((1 + 5 * (i : Int)) + 1)) + 1)) + 1)) + 1)) + 1)) (wrap64 ((i : Int) + 1))))))) = laws_markLinkS.l0 k y (1 + 5 * ((i + 1 : Nat) : Int)) ((i + 1 : Nat) : Int) := by
      refine ⟨_, ?_, fun k => by
        simp only [Option.bind_some]
        rw [wr (n := 1 + 5 * (i : Int) + 1) (by omega) (by omega), wr (n := 1 + 5 * (i : Int) + 1 + 1) (by omega) (by omega), wr (n := 1 + 5 * (i : Int) + 1 + 1 + 1) (by omega) (by omega), wr (n := 1 + 5 * (i : Int) + 1 + 1 + 1 + 1) (by omega) (by omega), wr (n := 1 + 5 * (i : Int) + 1 + 1 + 1 + 1 + 1) (by omega) (by omega), wr_succ i (by omega), show 1 + 5 * (i : Int) + 1 + 1 + 1 + 1 + 1 = 1 + 5 * ((i + 1 : Nat) : Int) by omega]⟩
      simp only [List.length_set]; exact hx
    obtain ⟨y, hy, hk⟩ := ex
    obtain ⟨x', hx'⟩ := step y hy
    refine ⟨x', ev_one (fun k => by simp only [laws_markLinkS.l0]; rw [if_pos (by omega)]) ?_⟩
    refine Ev.bind ht ?_
    simp only [if_pos (show (0 : Int) ≤ (i : Int) by omega)]
    exact Ev.congr hk hx'

theorem mark_ints (n : Nat) (hn : n ≤ 1048576) : ∀ (m i : Nat) (x : List Int), i + m = n → x.length = n → (∀ j, j < i → rd x (j : Int) = 1 + (j : Int)) → ∃ x', Ev (fun k => laws_markIntS.l0 k x (1 + (i : Int)) (i : Int)) (1 + (n : Int), x') ∧ x'.length = n ∧ ∀ j, j < n → rd x' (j : Int) = 1 + (j : Int) := by
  intro m
  induction m with
  | zero =>
    intro i x hi hx hr
    obtain rfl : i = n := by omega
    exact ⟨x, ev_some fun k => by simp only [laws_markIntS.l0]; rw [if_neg (by omega)], hx, hr⟩
  | succ m ih =>
    intro i x hi hx hr
    obtain ⟨x', h, h1, h2⟩ := ih (i + 1) (x.set i (1 + (i : Int))) (by omega) (by simpa using hx) (fun j hj => by
      rw [rd_lt _ _ (by simp; omega), List.getElem_set]
      split
      · rename_i e; rw [e]
      · rw [← rd_lt _ _ (by omega)]; exact hr j (by omega))
    refine ⟨x', ev_one (fun k => ?_) h, h1, h2⟩
    simp only [laws_markIntS.l0]
    rw [if_pos (by omega), if_pos (by omega)]
    simp only [Int.toNat_natCast]
    rw [wr (n := 1 + (i : Int) + 1) (by omega) (by omega), wr_succ i (by omega)]
    congr 1
theorem held_ints (x : List Int) (hn : x.length ≤ 1048576) (h : ∀ j, j < x.length → rd x (j : Int) = 1 + (j : Int)) : Ev (fun k => laws_heldIntS.f k x 1) (1 + (x.length : Int)) := by
  have := ev_run0 (r := 1 + (x.length : Int)) (fun i k => laws_heldIntS.l0 k x (1 + (i : Int)) (i : Int)) x.length (fun i hi k => by
    show laws_heldIntS.l0 (k + 1) x (1 + (i : Int)) (i : Int) = laws_heldIntS.l0 k x (1 + ((i + 1 : Nat) : Int)) ((i + 1 : Nat) : Int)
    simp only [laws_heldIntS.l0]
    rw [if_pos (by omega), if_pos (by omega), if_pos (h i hi), wr (n := 1 + (i : Int) + 1) (by omega) (by omega), wr_succ i (by omega)]
    congr 1) (ev_some fun k => by
    show laws_heldIntS.l0 (k + 1) x (1 + (x.length : Int)) (x.length : Int) = _
    simp only [laws_heldIntS.l0]; rw [if_neg (by omega)])
  simpa [laws_heldIntS.f] using this

theorem same_ints (l : List Int) (h : l.length ≤ 1048576) : Ev (fun k => laws_eqIntS.f k l l) true := by
  unfold laws_eqIntS.f
  simp only [if_true]
  exact same_loop laws_eqIntS.l0 l (fun k i hi => by
    simp only [laws_eqIntS.l0, if_true]
    rw [if_pos (by omega), if_pos (by omega), if_pos (by omega)]) (fun k => by simp only [laws_eqIntS.l0]; rw [if_neg (by omega)]) (by omega)
theorem FnExactChainSafe : laws_FnExactChainSafe.Plain := by
  intro l low high hl _ _
  refine Ev.rounds ?_
  have hs1 : ∀ x ∈ l, x.f0.size ≤ maxLen := fun x hx => (hl.2 x hx).1
  obtain ⟨r, hz, hz1⟩ := sz_links l hl.1 hs1
  unfold laws_FnExactChainSafe.f
  refine Ev.bind hz ?_
  by_cases h : r < 0
  · simp only [if_pos h]; exact Ev.now _
  simp only [if_neg h]
  have hn := hz1 (by omega)
  have hc := copy_links l hn
  have hs2 : ∀ x ∈ l.map lkConv, x.f0.size ≤ maxLen := by
    intro x hx
    obtain ⟨y, hy, rfl⟩ := List.mem_map.1 hx
    exact hs1 y hy
  obtain ⟨b, o, c, sx, ix, ho40⟩ := both_safe (l.map lkConv) low high (by simp; omega) hs2
  have so := same_ints o (by omega)
  refine Ev.bind hc ?_
  refine Ev.bind sx ?_
  refine Ev.bind hc ?_
  refine Ev.bind ix ?_
  simp only [bne_self_eq_false, Bool.false_eq_true, if_false]
  refine Ev.bind so ?_
  simp only [if_true]
  obtain ⟨p', hm⟩ := mark_links l.length (by omega) l.length 0 (l.map lkConv) (by omega) (by simp)
  obtain ⟨o', ho, ho1, ho2⟩ := mark_ints o.length (by omega) o.length 0 o (by omega) rfl (fun j hj => by omega)
  have hh := held_ints o' (by omega) (by rw [ho1]; exact ho2)
  rw [ho1] at hh
  have hm : Ev (fun k => laws_markLinkS.f k (l.map lkConv) 1) (1 + 5 * (l.length : Int), p') := hm
  have ho : Ev (fun k => laws_markIntS.f k o 1) (1 + (o.length : Int), o') := ho
  have last : Ev (fun k => laws_FnExactChainSafe.j2 k o' (1 + (o.length : Int)) false) true := by
    refine ev_one (fun k => by simp only [laws_FnExactChainSafe.j2, Bool.false_eq_true, if_false]; rfl) ?_
    refine Ev.bind hh ?_
    simp only [if_true]
    rw [if_neg (by omega)]; exact Ev.now _
  refine ev_one (fun k => by simp only [laws_FnExactChainSafe.j0, Bool.false_eq_true, if_false]; rfl) ?_
  refine Ev.bind hc ?_
  refine Ev.bind (same_links (l.map lkConv) (by simp; omega)) ?_
  simp only [if_true]
  refine Ev.bind hm ?_
  simp only [if_neg (show ¬ 1 + 5 * (l.length : Int) < 0 by omega), bne_self_eq_false, Bool.false_eq_true, if_false]
  refine Ev.bind so ?_
  simp only [if_true]
  refine ev_one (fun k => by simp only [laws_FnExactChainSafe.j1, Bool.false_eq_true, if_false]; rfl) ?_
  refine Ev.bind ho ?_
  refine Ev.bind hh ?_
  simp only [if_neg (show ¬ 1 + (o.length : Int) < 0 by omega), if_true]
  refine Ev.bind hc ?_
  refine Ev.bind ix ?_
  simp only [bne_self_eq_false, Bool.false_eq_true, if_false]
  refine Ev.bind so ?_
  simp only [if_true]
  exact last
end Go.Proofs.YthmeijbiemkbaaaDoor.Pure
