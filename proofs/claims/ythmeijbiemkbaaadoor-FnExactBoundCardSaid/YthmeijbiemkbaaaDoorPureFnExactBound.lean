/- FnExactBound over numbers and lists alone: the program's Bound and the reference's answer alike at every shop and list of jobs. -/
import Derived.Test.YthmeijbiemkbaaaDoorSFnExactBound
import Derived.Test.YthmeijbiemkbaaaDoorLib
namespace Go.Proofs.YthmeijbiemkbaaaDoor.Pure
open Go.RowKit Go.Proofs.YthmeijbiemkbaaaDoor.PFnExactBound Go.Proofs.YthmeijbiemkbaaaDoorW.PrintWords Go.Proofs.YthmeijbiemkbaaaDoorW.PrintLast Go.Proofs.YthmeijbiemkbaaaDoor.Lib Go.Proofs.YthmeijbiemkbaaaDoor.Seen Go.Proofs.YthmeijbiemkbaaaDoor.SeenPair
set_option linter.unusedVariables false
set_option linter.unusedSimpArgs false

/-- How many bytes a letter has whose first byte is c and whose second, if there is one more, is b. -/
def letR (r : Int) : Bool := decide (192 ≤ r ∧ r ≤ 591 ∧ r ≠ 215 ∧ r ≠ 247 ∨ 913 ≤ r ∧ r ≤ 969 ∨ 1040 ≤ r ∧ r ≤ 1103)
def letA (c : Int) : Bool := decide (97 ≤ c ∧ c ≤ 122 ∨ 65 ≤ c ∧ c ≤ 90 ∨ c = 95)
def letN (c b : Int) (more : Bool) : Int :=
  if letA c = true then 1 else if c < 194 ∨ c > 223 ∨ more = false ∨ b < 128 ∨ b > 191 then 0 else if letR ((c - 192) * 64 + b - 128) = true then 2 else 0
theorem spec_letter (s : ByteArray) (i : Nat) (h : i < s.size) (hs : s.size ≤ 9223372036854775806) :
    Ev (fun k => spec_l00Letter.f k s (i : Int)) (letN (bt s (i : Int)) (bt s ((i : Int) + 1)) (decide (i + 1 < s.size))) := by
  have hc := bt_range s (i : Int)
  have hb := bt_range s ((i : Int) + 1)
  have w1 : wrap64 ((i : Int) + 1) = (i : Int) + 1 := wr (by omega) (by omega)
  have red : ∀ k, spec_l00Letter.f k s (i : Int) = spec_l00Letter.j0 k s (i : Int) (bt s (i : Int)) (letA (bt s (i : Int))) := by
    intro k
    unfold spec_l00Letter.f letA
    generalize bt s (i : Int) = c at *
    rw [if_pos (by omega), if_pos (by omega)]
    repeat' split
    all_goals first
      | (congr 1; exact (decide_eq_true (by omega)).symm)
      | (congr 1; rw [Bool.eq_iff_iff, beq_iff_eq, decide_eq_true_eq]; omega)
  have j1t : ∀ k, spec_l00Letter.j1 (k + 1) s (i : Int) (bt s (i : Int)) true = some 0 := fun k => by simp only [spec_l00Letter.j1, if_true]
  refine Ev.congr red ?_
  unfold letN
  cases ha : letA (bt s (i : Int)) with
  | true =>
    rw [if_pos rfl]
    exact ev_some fun k => by simp only [spec_l00Letter.j0, if_true]
  | false =>
    rw [if_neg Bool.false_ne_true]
    by_cases hz : bt s (i : Int) < 194 ∨ bt s (i : Int) > 223 ∨ decide (i + 1 < s.size) = false ∨ bt s ((i : Int) + 1) < 128 ∨ bt s ((i : Int) + 1) > 191
    · rw [if_pos hz]
      refine ⟨2, fun k hk => ?_⟩
      obtain ⟨m, rfl⟩ : ∃ m, k = m + 2 := ⟨k - 2, by omega⟩
      simp only [spec_l00Letter.j0, Bool.false_eq_true, if_false, w1]
      rw [decide_eq_false_iff_not] at hz
      by_cases z1 : bt s (i : Int) < 194
      · rw [if_pos z1]; exact j1t m
      rw [if_neg z1]
      by_cases z2 : bt s (i : Int) > 223
      · rw [if_pos z2]; exact j1t m
      rw [if_neg z2]
      by_cases z3 : (i : Int) + 1 ≥ (s.size : Int)
      · rw [if_pos z3]; exact j1t m
      rw [if_neg z3, if_pos (by omega), if_pos (by omega)]
      by_cases z4 : bt s ((i : Int) + 1) < 128
      · rw [if_pos z4]; exact j1t m
      rw [if_neg z4, decide_eq_true (show bt s ((i : Int) + 1) > 191 by omega)]; exact j1t m
    · rw [if_neg hz]
      have hm : i + 1 < s.size := by
        rcases Nat.lt_or_ge (i + 1) s.size with hh | hh
        · exact hh
        · exact absurd (Or.inr (Or.inr (Or.inl (decide_eq_false (by omega))))) hz
      have hcb : 194 ≤ bt s (i : Int) ∧ bt s (i : Int) ≤ 223 ∧ 128 ≤ bt s ((i : Int) + 1) ∧ bt s ((i : Int) + 1) ≤ 191 := by
        refine ⟨?_, ?_, ?_, ?_⟩
        · exact Int.not_lt.1 fun hx => hz (Or.inl hx)
        · exact Int.not_lt.1 fun hx => hz (Or.inr (Or.inl hx))
        · exact Int.not_lt.1 fun hx => hz (Or.inr (Or.inr (Or.inr (Or.inl hx))))
        · exact Int.not_lt.1 fun hx => hz (Or.inr (Or.inr (Or.inr (Or.inr hx))))
      refine ⟨2, fun k hk => ?_⟩
      obtain ⟨m, rfl⟩ : ∃ m, k = m + 2 := ⟨k - 2, by omega⟩
      simp only [spec_l00Letter.j0, Bool.false_eq_true, if_false, w1]
      rw [if_neg (by omega), if_neg (by omega), if_neg (by omega), if_pos (by omega), if_pos (by omega), if_neg (by omega), decide_eq_false (show ¬ bt s ((i : Int) + 1) > 191 by omega)]
      simp only [spec_l00Letter.j1, Bool.false_eq_true, if_false, w1]
      rw [if_pos (by omega), if_pos (by omega)]
      generalize bt s (i : Int) = c at *
      generalize bt s ((i : Int) + 1) = b at *
      rw [wr (n := c) (by omega) (by omega), wr (n := c - 192) (by omega) (by omega), wr (n := (c - 192) * 64) (by omega) (by omega), wr (n := b) (by omega) (by omega), wr (n := (c - 192) * 64 + b) (by omega) (by omega), wr (n := (c - 192) * 64 + b - 128) (by omega) (by omega)]
      unfold letR
      generalize (c - 192) * 64 + b - 128 = r
      clear hz hcb hc hb
      repeat' split
      all_goals first
        | rfl
        | (exfalso; simp only [decide_eq_true_eq] at *; omega)
def nlB (r z : Int) : Bool := decide (z = 1 ∧ letA r = true ∨ z = 2 ∧ letR r = true)
theorem impl_letter (r z : Int) : impl_nameLetter.f r z = some (nlB r z) := by
  unfold impl_nameLetter.f nlB letA letR
  simp only [decide_eq_true_eq]
  repeat' split
  all_goals first
    | (congr 1; exact (decide_eq_true (by omega)).symm)
    | (congr 1; exact (decide_eq_false (by omega)).symm)
    | (congr 1; rw [Bool.eq_iff_iff, beq_iff_eq, decide_eq_true_eq]; omega)
    | (congr 1; rw [Bool.eq_iff_iff, decide_eq_true_eq, decide_eq_true_eq]; omega)
theorem get_bt (s : ByteArray) (i : Nat) (h : i < s.size) : ((s.get! i).toNat : Int) = bt s (i : Int) := by
  have h' : ((i : Int)).toNat < s.size := by omega
  have := bt_at s (i : Int) h'
  rw [← this]
  have e : s.get! i = s[i]'h := by
    cases s with
    | mk d => exact getElem!_pos d i h
  rw [e]; rfl
theorem get_ext (s : ByteArray) (i j : Nat) (h : i + j < s.size) : (s.extract i s.size).get! j = s.get! (i + j) := by
  have hz : j < (s.extract i s.size).size := by rw [ByteArray.size_extract]; omega
  have e : ∀ (t : ByteArray) (n : Nat) (hn : n < t.size), t.get! n = t[n]'hn := fun t n hn => by
    cases t with
    | mk d => exact getElem!_pos d n hn
  rw [e _ _ hz, e _ _ h]
  exact ByteArray.getElem_extract ..
theorem dec_at (s : ByteArray) (i : Nat) (h : i < s.size) : ∃ b1 b2 b3 : Nat, Lib.decodeGo (s.extract i s.size) = Lib.decodeN (s.size - i) (bt s (i : Int)).toNat b1 b2 b3 ∧ (i + 1 < s.size → (b1 : Int) = bt s ((i : Int) + 1)) ∧ b1 < 256 := by
  have hz : (s.extract i s.size).size = s.size - i := by rw [ByteArray.size_extract]; omega
  refine ⟨((s.extract i s.size).get! 1).toNat, ((s.extract i s.size).get! 2).toNat, ((s.extract i s.size).get! 3).toNat, ?_, ?_, UInt8.toNat_lt _⟩
  · unfold Lib.decodeGo
    rw [if_neg (by omega), Lib.decode_at, hz, Nat.sub_zero, get_ext s i 0 h, Nat.add_zero, ← get_bt s i h]
    rfl
  · intro h1
    rw [get_ext s i 1 h1, get_bt s (i + 1) h1]; rfl
/-- What the program's decoder and test tell of a place is what the reference's tell. -/
theorem dec_step (n c b1 b2 b3 : Nat) (hc : c < 256) (hb : b1 < 256) (b : Int) (he : 1 < n → (b1 : Int) = b) (hn : 1 ≤ n) :
    (nlB ((Lib.decodeN n c b1 b2 b3).1 : Int) ((Lib.decodeN n c b1 b2 b3).2 : Int) = true ↔ letN (c : Int) b (decide (1 < n)) ≠ 0) ∧
    (letN (c : Int) b (decide (1 < n)) ≠ 0 → ((Lib.decodeN n c b1 b2 b3).2 : Int) = letN (c : Int) b (decide (1 < n))) ∧
    ((48 ≤ ((Lib.decodeN n c b1 b2 b3).1 : Int) ∧ ((Lib.decodeN n c b1 b2 b3).1 : Int) ≤ 57) ↔ (48 ≤ (c : Int) ∧ (c : Int) ≤ 57)) ∧
    ((48 ≤ (c : Int) ∧ (c : Int) ≤ 57) → ((Lib.decodeN n c b1 b2 b3).2 : Int) = 1) := by
  have big : letA 65533 = false := by decide
  by_cases h1 : c < 128
  · have e : Lib.decodeN n c b1 b2 b3 = (c, 1) := by unfold Lib.decodeN; rw [if_pos h1]
    rw [e]
    have hl : letN (c : Int) b (decide (1 < n)) = if letA (c : Int) = true then 1 else 0 := by
      unfold letN
      by_cases ha : letA (c : Int) = true
      · rw [if_pos ha, if_pos ha]
      · rw [if_neg ha, if_neg ha, if_pos (Or.inl (by omega))]
    have hn1 : nlB ((c : Nat) : Int) ((1 : Nat) : Int) = letA (c : Int) := by
      unfold nlB
      rw [Bool.eq_iff_iff, decide_eq_true_eq]
      constructor
      · rintro (⟨_, h⟩ | ⟨h, _⟩)
        · exact h
        · omega
      · intro h; exact Or.inl ⟨by omega, h⟩
    rw [hl]
    simp only
    rw [hn1]
    cases letA (c : Int) with
    | true => simp
    | false => simp
  by_cases h2 : c / 32 = 6 ∧ (1 < n ∧ b1 / 64 = 2)
  · obtain ⟨h2a, h2b, h2c⟩ := h2
    have hb' := he h2b
    have ha : letA (c : Int) = false := by unfold letA; rw [decide_eq_false_iff_not]; omega
    by_cases h3 : c % 32 * 64 + b1 % 64 ≥ 128
    · have e : Lib.decodeN n c b1 b2 b3 = (c % 32 * 64 + b1 % 64, 2) := by unfold Lib.decodeN; rw [if_neg h1, if_pos ⟨h2a, h2b, h2c⟩, if_pos h3]
      have ev : ((c % 32 * 64 + b1 % 64 : Nat) : Int) = ((c : Int) - 192) * 64 + b - 128 := by omega
      have hl : letN (c : Int) b (decide (1 < n)) = if letR (((c : Int) - 192) * 64 + b - 128) = true then 2 else 0 := by
        unfold letN
        rw [ha, if_neg Bool.false_ne_true, if_neg (by rw [decide_eq_false_iff_not]; omega)]
      have hn1 : nlB ((c % 32 * 64 + b1 % 64 : Nat) : Int) ((2 : Nat) : Int) = letR (((c : Int) - 192) * 64 + b - 128) := by
        unfold nlB
        rw [ev, Bool.eq_iff_iff, decide_eq_true_eq]
        constructor
        · rintro (⟨h, _⟩ | ⟨_, h⟩)
          · omega
          · exact h
        · intro h; exact Or.inr ⟨by omega, h⟩
      rw [e, hl]
      simp only
      rw [hn1]
      refine ⟨?_, ?_, ?_, ?_⟩
      · cases letR (((c : Int) - 192) * 64 + b - 128) <;> simp
      · cases letR (((c : Int) - 192) * 64 + b - 128) <;> simp
      · omega
      · omega
    · have e : Lib.decodeN n c b1 b2 b3 = (65533, 1) := by unfold Lib.decodeN; rw [if_neg h1, if_pos ⟨h2a, h2b, h2c⟩, if_neg h3]
      have hl : letN (c : Int) b (decide (1 < n)) = 0 := by
        unfold letN
        rw [ha, if_neg Bool.false_ne_true, if_pos (Or.inl (by omega))]
      have hn1 : nlB ((65533 : Nat) : Int) ((1 : Nat) : Int) = false := by decide
      rw [e, hl]
      simp only
      rw [hn1]
      refine ⟨by simp, by simp, by omega, by omega⟩
  · have ha : letA (c : Int) = false := by unfold letA; rw [decide_eq_false_iff_not]; omega
    have hl : letN (c : Int) b (decide (1 < n)) = 0 := by
      unfold letN
      rw [ha, if_neg Bool.false_ne_true]
      by_cases hm : 1 < n
      · have hb' := he hm
        rw [if_pos (by
          have : ¬ (c / 32 = 6 ∧ b1 / 64 = 2) := fun hh => h2 ⟨hh.1, hm, hh.2⟩
          omega)]
      · rw [if_pos (Or.inr (Or.inr (Or.inl (decide_eq_false hm))))]
    have hd : (Lib.decodeN n c b1 b2 b3 = (65533, 1)) ∨ (2048 ≤ (Lib.decodeN n c b1 b2 b3).1 ∧ 3 ≤ (Lib.decodeN n c b1 b2 b3).2) := by
      unfold Lib.decodeN
      rw [if_neg h1, if_neg h2]
      split
      · split
        · rename_i hv; exact Or.inr ⟨hv.1, by simp⟩
        · exact Or.inl rfl
      · split
        · split
          · rename_i hv; exact Or.inr ⟨by have := hv.1; simp only; omega, by simp⟩
          · exact Or.inl rfl
        · exact Or.inl rfl
    rw [hl]
    rcases hd with e | ⟨e1, e2⟩
    · have hn1 : nlB ((65533 : Nat) : Int) ((1 : Nat) : Int) = false := by decide
      rw [e]
      simp only
      rw [hn1]
      refine ⟨by simp, by simp, by omega, by omega⟩
    · generalize Lib.decodeN n c b1 b2 b3 = D at *
      have hn1 : nlB (D.1 : Int) (D.2 : Int) = false := by
        unfold nlB
        rw [decide_eq_false_iff_not]
        rintro (⟨h, _⟩ | ⟨h, _⟩) <;> omega
      rw [hn1]
      refine ⟨by simp, by simp, by omega, by omega⟩
/-- How many bytes of a name stand at a place, both. -/
theorem both_run (s : ByteArray) (hs : s.size ≤ 1048576) : ∀ (m i : Nat), s.size - i ≤ m → i ≤ s.size → ∃ r, Ev (fun k => spec_l00Word.l0 k s 0 (i : Int)) r ∧ Ev (fun k => impl_nameRun.l0 k s 0 false (i : Int)) r := by
  intro m
  induction m with
  | zero =>
    intro i h1 h2
    obtain rfl : i = s.size := by omega
    refine ⟨(s.size : Int), ev_some fun k => ?_, ev_some fun k => ?_⟩
    · simp only [spec_l00Word.l0]; rw [if_neg (by omega), wr (by omega) (by omega), Int.sub_zero]
    · simp only [impl_nameRun.l0]; rw [wr (by omega) (by omega), if_neg (by omega)]
  | succ m ih =>
    intro i h1 h2
    by_cases hi : i < s.size
    · obtain ⟨b1, b2, b3, hd, hb, hb1⟩ := dec_at s i hi
      have hc := bt_range s (i : Int)
      have e1 : ((bt s (i : Int)).toNat : Int) = bt s (i : Int) := by omega
      obtain ⟨d1, d2, d3, d4⟩ := dec_step (s.size - i) (bt s (i : Int)).toNat b1 b2 b3 (by omega) hb1 (bt s ((i : Int) + 1)) (fun h => hb (by omega)) (by omega)
      rw [show decide (1 < s.size - i) = decide (i + 1 < s.size) by rw [Bool.eq_iff_iff, decide_eq_true_eq, decide_eq_true_eq]; omega] at d1 d2
      rw [e1] at d1 d2 d3 d4
      have sl := spec_letter s i hi (by omega)
      -- the letter's length
      have hL : ∃ n : Nat, letN (bt s (i : Int)) (bt s ((i : Int) + 1)) (decide (i + 1 < s.size)) = (n : Int) ∧ i + n ≤ s.size := by
        unfold letN
        split
        · exact ⟨1, rfl, by omega⟩
        · split
          · exact ⟨0, rfl, by omega⟩
          · rename_i hz
            split
            · refine ⟨2, rfl, ?_⟩
              rcases Nat.lt_or_ge (i + 1) s.size with hh | hh
              · omega
              · exact absurd (Or.inr (Or.inr (Or.inl (decide_eq_false (by omega))))) hz
            · exact ⟨0, rfl, by omega⟩
      obtain ⟨n, hn, hle⟩ := hL
      rw [hn] at d1 d2 sl
      generalize Lib.decodeN (s.size - i) (bt s (i : Int)).toNat b1 b2 b3 = D at *
      have ired : ∀ k, impl_nameRun.l0 (k + 1) s 0 false (i : Int) = (if nlB (D.1 : Int) (D.2 : Int) = true then (impl_nameRun.l0 k s 0 false (wrap64 ((i : Int) + (D.2 : Int)))) else (if (i : Int) > 0 then (if (D.1 : Int) ≥ 48 then (if (D.1 : Int) ≤ 57 then (impl_nameRun.l0 k s 0 false (wrap64 ((i : Int) + (D.2 : Int)))) else (some (i : Int))) else (some (i : Int))) else some (i : Int))) := by
        intro k
        simp only [impl_nameRun.l0]
        rw [wr (n := 0 + (i : Int)) (by omega) (by omega), if_pos (by omega), if_pos (by omega), if_pos (by omega), show ((0 : Int) + (i : Int)).toNat = i by omega]
        simp only [utf8_DecodeRuneInString.f, hd, Option.bind_some, impl_letter, Bool.false_eq_true, if_false]
      by_cases hz : n = 0
      · subst hz
        have hnl : nlB (D.1 : Int) (D.2 : Int) = false := by
          cases hv : nlB (D.1 : Int) (D.2 : Int) with
          | false => rfl
          | true => exact absurd rfl (d1.1 hv)
        by_cases hdg : 0 < i ∧ 48 ≤ bt s (i : Int) ∧ bt s (i : Int) ≤ 57
        · have h2 := d4 hdg.2
          have h3 := d3.2 hdg.2
          obtain ⟨r, r1, r2⟩ := ih (i + 1) (by omega) (by omega)
          refine ⟨r, ?_, ?_⟩
          · refine ev_one (fun k => by simp only [spec_l00Word.l0]; rw [if_pos (by omega)]) ?_
            refine Ev.bind sl ?_
            simp only [Int.natCast_zero, if_true]
            simp only [if_pos (show (i : Int) > 0 by omega), if_pos (show (0 : Int) ≤ (i : Int) by omega), if_pos (show bt s (i : Int) ≥ 48 by omega), decide_eq_true hdg.2.2]
            refine ev_one (fun k => ?_) r1
            simp only [spec_l00Word.j1, if_true]
            rw [if_neg (by decide), wr_succ i (by omega)]
          · refine ev_one (fun k => ?_) r2
            rw [ired, hnl, if_neg Bool.false_ne_true, if_pos (by omega), if_pos (by omega), if_pos (by omega), h2, wr_succ i (by omega)]
        · refine ⟨(i : Int), ?_, ?_⟩
          · have stop : ∀ x : Bool, x = false → Ev (fun k => spec_l00Word.j1 k s 0 (i : Int) 0 x) (i : Int) := fun x hx => ev_some fun k => by
              subst hx
              simp only [spec_l00Word.j1, Bool.false_eq_true, if_false, if_true]
              rw [wr (by omega) (by omega), Int.sub_zero]
            refine ev_one (fun k => by simp only [spec_l00Word.l0]; rw [if_pos (by omega)]) ?_
            refine Ev.bind sl ?_
            simp only [Int.natCast_zero, if_true]
            by_cases g1 : (i : Int) > 0
            · simp only [if_pos g1, if_pos (show (0 : Int) ≤ (i : Int) by omega)]
              by_cases g2 : bt s (i : Int) ≥ 48
              · simp only [if_pos g2]
                exact stop _ (decide_eq_false (by omega))
              · simp only [if_neg g2]
                exact stop _ rfl
            · simp only [if_neg g1]
              exact stop _ rfl
          · refine ev_some fun k => ?_
            rw [ired, hnl, if_neg Bool.false_ne_true]
            by_cases g1 : (i : Int) > 0
            · rw [if_pos g1]
              by_cases g2 : (D.1 : Int) ≥ 48
              · rw [if_pos g2, if_neg (by
                  intro g3
                  exact hdg ⟨by omega, d3.1 ⟨g2, g3⟩⟩)]
              · rw [if_neg g2]
            · rw [if_neg g1]
      · have hnl : nlB (D.1 : Int) (D.2 : Int) = true := d1.2 (by omega)
        have hs2 := d2 (by omega)
        obtain ⟨r, r1, r2⟩ := ih (i + n) (by omega) (by omega)
        refine ⟨r, ?_, ?_⟩
        · refine ev_one (fun k => by simp only [spec_l00Word.l0]; rw [if_pos (by omega)]) ?_
          refine Ev.bind sl ?_
          simp only [if_neg (show ¬ ((n : Nat) : Int) = 0 by omega)]
          refine ev_one (fun k => ?_) r1
          simp only [spec_l00Word.j1, Bool.false_eq_true, if_false]
          rw [if_neg (by omega), wr (by omega) (by omega), show (i : Int) + (n : Int) = ((i + n : Nat) : Int) by omega]
        · refine ev_one (fun k => ?_) r2
          rw [ired, hnl, if_pos rfl, hs2, wr (by omega) (by omega), show (i : Int) + (n : Int) = ((i + n : Nat) : Int) by omega]
    · obtain rfl : i = s.size := by omega
      refine ⟨(s.size : Int), ev_some fun k => ?_, ev_some fun k => ?_⟩
      · simp only [spec_l00Word.l0]; rw [if_neg (by omega), wr (by omega) (by omega), Int.sub_zero]
      · simp only [impl_nameRun.l0]; rw [wr (by omega) (by omega), if_neg (by omega)]
/-- Whether a string is a name: both tell the same. -/
theorem both_name (s : ByteArray) (hs : s.size ≤ maxLen) : ∃ b, Ev (fun k => spec_NameOK.f k s) b ∧ Ev (fun k => impl_NameOK.f k s) b := by
  unfold maxLen at hs
  unfold spec_NameOK.f impl_NameOK.f
  by_cases h1 : (s.size : Int) > 0
  · by_cases h2 : (s.size : Int) ≤ 40
    · obtain ⟨r, r1, r2⟩ := both_run s (by omega) s.size 0 (by omega) (by omega)
      refine ⟨(r == (s.size : Int)), ?_, ?_⟩
      · simp only [if_pos h1, if_pos h2]
        exact Ev.bind (g := fun k => spec_l00Word.f k s 0) r1 (Ev.now _)
      · simp only [if_pos (show (s.size : Int) ≥ 1 by omega), if_pos h2]
        exact Ev.bind (g := fun k => impl_nameRun.f k s 0 false) r2 (Ev.now _)
    · refine ⟨false, ?_, ?_⟩
      · simp only [if_pos h1, if_neg h2]; exact Ev.now _
      · simp only [if_pos (show (s.size : Int) ≥ 1 by omega), if_neg h2]; exact Ev.now _
  · refine ⟨false, ?_, ?_⟩
    · simp only [if_neg h1]; exact Ev.now _
    · simp only [if_neg (show ¬ (s.size : Int) ≥ 1 by omega)]; exact Ev.now _

theorem ev_uniq {α : Type} {g : Nat → Option α} {a b : α} (h : Ev g a) (h' : Ev g b) : a = b := by
  obtain ⟨K, h⟩ := h
  obtain ⟨K', h'⟩ := h'
  have h1 := h (max K K') (by omega)
  have h2 := h' (max K K') (by omega)
  rw [h1] at h2
  exact Option.some.inj h2
open Classical in
noncomputable def nameB (s : ByteArray) : Bool := if h : s.size ≤ maxLen then Classical.choose (both_name s h) else false
theorem nameB_spec (s : ByteArray) (h : s.size ≤ maxLen) : Ev (fun k => spec_NameOK.f k s) (nameB s) ∧ Ev (fun k => impl_NameOK.f k s) (nameB s) := by
  unfold nameB
  rw [dif_pos h]
  exact Classical.choose_spec (both_name s h)
theorem nameB_size (s : ByteArray) (h : s.size ≤ maxLen) (ht : nameB s = true) : s.size ≤ 40 := by
  have h1 := (nameB_spec s h).1
  rw [ht] at h1
  unfold maxLen at h
  rcases Nat.lt_or_ge 40 s.size with hb | hb
  · have h2 : Ev (fun k => spec_NameOK.f k s) false := by
      unfold spec_NameOK.f
      by_cases h0 : (s.size : Int) > 0
      · simp only [if_pos h0, if_neg (show ¬ (s.size : Int) ≤ 40 by omega)]; exact Ev.now _
      · simp only [if_neg h0]; exact Ev.now _
    exact absurd (ev_uniq h1 h2) (by decide)
  · exact hb

abbrev ST := S71
abbrev JB := S68
theorem rdJ (l : List JB) (i : Nat) (h : i < l.length) : rd_T68 l (i : Int) = l[i] := by
  unfold rd_T68; simp [h]
def okStep (m life : Int) (s : ST) : Bool := decide (0 ≤ s.f0 ∧ s.f0 < m ∧ 1 ≤ s.f1 ∧ s.f1 ≤ 1000 ∧ 0 ≤ s.f2 ∧ s.f2 ≤ 9 ∧ 0 ≤ s.f3 ∧ s.f3 ≤ life)
def baseJ (j : JB) : Bool := decide (0 ≤ j.f1 ∧ j.f1 ≤ 1000000 ∧ 1 ≤ j.f2.length ∧ j.f2.length ≤ 8)
def namesJ (l : List JB) : List ByteArray := l.map fun x => x.f0
def stepsB (m life : Int) (l : List ST) : Bool := if ∀ i, i < l.length → okStep m life (rd_T71 l (i : Int)) = true then true else false
noncomputable def okJ (m life : Int) (l : List JB) (i : Nat) : Bool := nameB (rd_T68 l (i : Int)).f0 && baseJ (rd_T68 l (i : Int)) && !inB (namesJ (l.take i)) (rd_T68 l (i : Int)).f0 && stepsB m life (rd_T68 l (i : Int)).f2
noncomputable def shopB (m su life : Int) (l : List JB) : Bool := if 1 ≤ m ∧ m ≤ 6 ∧ 0 ≤ su ∧ su ≤ 1000 ∧ 1 ≤ life ∧ life ≤ 1000 ∧ l.length ≤ 20 then (if ∀ i, i < l.length → okJ m life l i = true then true else false) else false
theorem within1 (a lo hi : Int) : Ev (fun k => spec_l16Within.f k [a] lo hi) (decide (lo ≤ a ∧ a ≤ hi)) := by
  refine ⟨2, fun k hk => ?_⟩
  obtain ⟨m, rfl⟩ : ∃ m, k = m + 2 := ⟨k - 2, by omega⟩
  have w1 : wrap64 ((0 : Int) + 1) = 1 := (wr (by omega) (by omega)).trans (by omega)
  have r0 : rd [a] 0 = a := rfl
  have hl : (([a] : List Int).length : Int) = 1 := rfl
  simp only [spec_l16Within.f]
  rw [spec_l16Within.l0, if_pos (by rw [hl]; omega), if_pos (by omega), r0, w1]
  by_cases c1 : a < lo
  · rw [if_pos c1, decide_eq_false (by omega)]
  · rw [if_neg c1]
    by_cases c2 : a > hi
    · rw [if_pos c2, decide_eq_false (by omega)]
    · rw [if_neg c2, spec_l16Within.l0, if_neg (by rw [hl]; omega), decide_eq_true (by omega)]
theorem step_chain (m life : Int) (s : ST) (R : Option Bool) : (if s.f0 < 0 then (some false) else (if s.f0 ≥ m then (some false) else (if s.f1 < 1 then (some false) else (if s.f1 > 1000 then (some false) else (if s.f2 < 0 then (some false) else (if s.f2 > 9 then (some false) else (if s.f3 < 0 then (some false) else (if s.f3 > life then (some false) else R)))))))) = if okStep m life s = true then R else some false := by
  by_cases h : okStep m life s = true
  · rw [if_pos h]
    unfold okStep at h
    rw [decide_eq_true_eq] at h
    rw [if_neg (by omega), if_neg (by omega), if_neg (by omega), if_neg (by omega), if_neg (by omega), if_neg (by omega), if_neg (by omega), if_neg (by omega)]
  · rw [if_neg h]
    unfold okStep at h
    rw [decide_eq_true_eq] at h
    by_cases d1 : s.f0 < 0
    · rw [if_pos d1]
    rw [if_neg d1]
    by_cases d2 : s.f0 ≥ m
    · rw [if_pos d2]
    rw [if_neg d2]
    by_cases d3 : s.f1 < 1
    · rw [if_pos d3]
    rw [if_neg d3]
    by_cases d4 : s.f1 > 1000
    · rw [if_pos d4]
    rw [if_neg d4]
    by_cases d5 : s.f2 < 0
    · rw [if_pos d5]
    rw [if_neg d5]
    by_cases d6 : s.f2 > 9
    · rw [if_pos d6]
    rw [if_neg d6]
    by_cases d7 : s.f3 < 0
    · rw [if_pos d7]
    rw [if_neg d7, if_pos (by omega)]
theorem inB_takeJ (l : List JB) (i : Nat) (h : i ≤ l.length) (s : ByteArray) : inB (namesJ (l.take i)) s = false ↔ ∀ j, j < i → ¬ (rd_T68 l (j : Int)).f0.toList = s.toList := by
  unfold inB namesJ
  rw [List.any_eq_false]
  constructor
  · intro hh j hj he
    have hm : (rd_T68 l (j : Int)).f0 ∈ (l.take i).map fun x => x.f0 := by
      rw [rdJ l j (by omega)]
      refine List.mem_map.2 ⟨l[j], ?_, rfl⟩
      rw [List.mem_take_iff_getElem]
      exact ⟨j, by omega, rfl⟩
    refine hh _ hm ?_
    rw [beq_iff_eq, ← Lib.toList_data, ← Lib.toList_data]; exact he
  · intro hh t ht he
    obtain ⟨x, hx, rfl⟩ := List.mem_map.1 ht
    rw [List.mem_take_iff_getElem] at hx
    obtain ⟨j, hj, rfl⟩ := hx
    refine hh j (by omega) ?_
    rw [rdJ l j (by omega), Lib.toList_data, Lib.toList_data]
    exact beq_iff_eq.1 he
theorem bad_steps {ρ : Type} {bad : ρ} (G : Nat → Nat → Option ρ) (n : Nat) (p : Nat → Bool) (go : ∀ i, i < n → p i = true → ∀ q, Ev (G (i + 1)) q → Ev (G i) q) (no : ∀ i, i < n → p i = false → Ev (G i) bad) (h : ¬ ∀ i, i < n → p i = true) : Ev (G 0) bad := by
  have hex : ∃ m, m < n ∧ p m = false ∧ ∀ i, i < m → p i = true := by
    clear go no
    induction n with
    | zero => exact absurd (fun i hi => by omega) h
    | succ n ih =>
      by_cases h' : ∀ i, i < n → p i = true
      · refine ⟨n, by omega, ?_, h'⟩
        cases hp : p n with
        | false => rfl
        | true =>
          exfalso
          refine h fun i hi => ?_
          rcases Nat.lt_or_ge i n with hl | hl
          · exact h' i hl
          · obtain rfl : i = n := by omega
            exact hp
      · obtain ⟨m, hm, hp, hall⟩ := ih h'
        exact ⟨m, by omega, hp, hall⟩
  obtain ⟨m, hm, hp, hall⟩ := hex
  exact ev_steps G m (fun i hi => go i (by omega) (hall i hi) bad) (no m hm hp)
section shop
variable (m su life : Int) (l : List JB) (hn : l.length ≤ 20)
include hn
theorem spec_steps (i : Nat) (hi : i < l.length) {nm : ByteArray} {due : Int} {st : List ST} (hst : st.length ≤ 8) {q : Bool} (hq : Ev (fun k => if stepsB m life st = true then spec_ShopOK.l0 k l ((i + 1 : Nat) : Int) m su life else some false) q) :
    Ev (fun k => spec_ShopOK.l2 k l (i : Int) 0 m su life nm due st) q := by
  have go : ∀ j, j < st.length → okStep m life (rd_T71 st (j : Int)) = true → ∀ q, Ev (fun k => spec_ShopOK.l2 k l (i : Int) ((j + 1 : Nat) : Int) m su life nm due st) q → Ev (fun k => spec_ShopOK.l2 k l (i : Int) (j : Int) m su life nm due st) q := fun j hj hp q hq => by
    refine ev_one (fun k => ?_) hq
    simp only [spec_ShopOK.l2]
    rw [if_pos (by omega), if_pos (by omega), step_chain, if_pos hp, wr_succ j (by omega)]
  by_cases hall : ∀ i, i < st.length → okStep m life (rd_T71 st (i : Int)) = true
  · have h : stepsB m life st = true := by unfold stepsB; rw [if_pos hall]
    simp only [h, if_true] at hq
    refine ev_steps (fun j k => spec_ShopOK.l2 k l (i : Int) (j : Int) m su life nm due st) st.length (fun j hj hn => go j hj (hall j hj) q hn) ?_
    refine ev_one (fun k => ?_) hq
    show spec_ShopOK.l2 (k + 1) l (i : Int) (st.length : Int) m su life nm due st = _
    simp only [spec_ShopOK.l2]
    rw [if_neg (by omega), wr_succ i (by omega)]
  · have h : stepsB m life st = false := by unfold stepsB; rw [if_neg hall]
    simp only [h, Bool.false_eq_true, if_false] at hq
    have hq' : q = false := ev_uniq hq (Ev.now false)
    subst hq'
    refine bad_steps (fun j k => spec_ShopOK.l2 k l (i : Int) (j : Int) m su life nm due st) st.length (fun j => okStep m life (rd_T71 st (j : Int))) go (fun j hj hp => ev_some fun k => ?_) hall
    show spec_ShopOK.l2 (k + 1) l (i : Int) (j : Int) m su life nm due st = _
    simp only [spec_ShopOK.l2]
    rw [if_pos (by omega), if_pos (by omega), step_chain, if_neg (by rw [hp]; exact Bool.false_ne_true)]
theorem impl_steps (i : Nat) (hi : i < l.length) {S : List ByteArray} {st : List ST} (hst : st.length ≤ 8) {q : Bool} (hq : Ev (fun k => if stepsB m life st = true then impl_ShopOK.l0 k S l (l.length : Int) ((i + 1 : Nat) : Int) m su life else some false) q) :
    Ev (fun k => impl_ShopOK.l1 k S l (l.length : Int) (i : Int) st (st.length : Int) 0 m su life) q := by
  have go : ∀ j, j < st.length → okStep m life (rd_T71 st (j : Int)) = true → ∀ q, Ev (fun k => impl_ShopOK.l1 k S l (l.length : Int) (i : Int) st (st.length : Int) ((j + 1 : Nat) : Int) m su life) q → Ev (fun k => impl_ShopOK.l1 k S l (l.length : Int) (i : Int) st (st.length : Int) (j : Int) m su life) q := fun j hj hp q hq => by
    refine ev_one (fun k => ?_) hq
    simp only [impl_ShopOK.l1]
    rw [if_pos (by omega), if_pos (by omega), if_pos (by omega), step_chain, if_pos hp, wr_succ j (by omega)]
  by_cases hall : ∀ i, i < st.length → okStep m life (rd_T71 st (i : Int)) = true
  · have h : stepsB m life st = true := by unfold stepsB; rw [if_pos hall]
    simp only [h, if_true] at hq
    refine ev_steps (fun j k => impl_ShopOK.l1 k S l (l.length : Int) (i : Int) st (st.length : Int) (j : Int) m su life) st.length (fun j hj hn => go j hj (hall j hj) q hn) ?_
    refine ev_one (fun k => ?_) hq
    show impl_ShopOK.l1 (k + 1) S l (l.length : Int) (i : Int) st (st.length : Int) (st.length : Int) m su life = _
    simp only [impl_ShopOK.l1]
    rw [if_neg (by omega), wr_succ i (by omega)]
  · have h : stepsB m life st = false := by unfold stepsB; rw [if_neg hall]
    simp only [h, Bool.false_eq_true, if_false] at hq
    have hq' : q = false := ev_uniq hq (Ev.now false)
    subst hq'
    refine bad_steps (fun j k => impl_ShopOK.l1 k S l (l.length : Int) (i : Int) st (st.length : Int) (j : Int) m su life) st.length (fun j => okStep m life (rd_T71 st (j : Int))) go (fun j hj hp => ev_some fun k => ?_) hall
    show impl_ShopOK.l1 (k + 1) S l (l.length : Int) (i : Int) st (st.length : Int) (j : Int) m su life = _
    simp only [impl_ShopOK.l1]
    rw [if_pos (by omega), if_pos (by omega), if_pos (by omega), step_chain, if_neg (by rw [hp]; exact Bool.false_ne_true)]
theorem spec_dupJ (i : Nat) (h : i < l.length) {s : ByteArray} {due : Int} {st : List ST} {q : Bool} (hq : Ev (fun k => if inB (namesJ (l.take i)) s = true then some false else spec_ShopOK.l2 k l (i : Int) 0 m su life s due st) q) : Ev (fun k => spec_ShopOK.l1 k l (i : Int) 0 m su life s due st) q := by
  have key : ∀ (r j : Nat), j + r = i → (∀ j', j' < j → ¬ (rd_T68 l (j' : Int)).f0.toList = s.toList) → Ev (fun k => spec_ShopOK.l1 k l (i : Int) (j : Int) m su life s due st) q := by
    intro r
    induction r with
    | zero =>
      intro j hj hn
      obtain rfl : j = i := by omega
      have hi : inB (namesJ (l.take j)) s = false := (inB_takeJ l j (by omega) s).2 hn
      simp only [hi, Bool.false_eq_true, if_false] at hq
      refine ev_one (fun k => ?_) hq
      simp only [spec_ShopOK.l1]
      rw [if_neg (by omega)]
    | succ r ih =>
      intro j hj hn
      by_cases he : (rd_T68 l (j : Int)).f0.toList = s.toList
      · have hi : inB (namesJ (l.take i)) s = true := by
          cases hv : inB (namesJ (l.take i)) s with
          | true => rfl
          | false => exact absurd he ((inB_takeJ l i (by omega) s).1 hv j (by omega))
        simp only [hi, if_true] at hq
        refine ev_one (f := fun _ => some false) (fun k => ?_) hq
        simp only [spec_ShopOK.l1]
        rw [if_pos (by omega), if_pos (by omega), if_pos (by omega), if_pos he]
      · refine ev_one (fun k => ?_) (ih (j + 1) (by omega) (fun j' hj' => by
          rcases Nat.lt_or_ge j' j with h1 | h1
          · exact hn j' h1
          · obtain rfl : j' = j := by omega
            exact he))
        simp only [spec_ShopOK.l1]
        rw [if_pos (by omega), if_pos (by omega), if_pos (by omega), if_neg he, wr_succ j (by omega)]
  exact key i 0 (by omega) (fun j' hj' => by omega)
end shop
theorem base_chain (j : JB) (A B : Option Bool) (F : Bool → Option Bool) (hA : F true = A) (hB : F false = B) : (if j.f1 < 0 then F true else (if j.f1 > 1000000 then F true else (if (j.f2.length : Int) < 1 then F true else F (decide ((j.f2.length : Int) > 8))))) = F (!baseJ j) := by
  by_cases d1 : j.f1 < 0
  · rw [if_pos d1, show baseJ j = false from decide_eq_false (by omega)]; rfl
  rw [if_neg d1]
  by_cases d2 : j.f1 > 1000000
  · rw [if_pos d2, show baseJ j = false from decide_eq_false (by omega)]; rfl
  rw [if_neg d2]
  by_cases d3 : (j.f2.length : Int) < 1
  · rw [if_pos d3, show baseJ j = false from decide_eq_false (by omega)]; rfl
  rw [if_neg d3]
  congr 1
  unfold baseJ
  by_cases d4 : (j.f2.length : Int) > 8
  · rw [decide_eq_true d4, decide_eq_false (by omega)]; rfl
  · rw [decide_eq_false d4, decide_eq_true (by omega)]; rfl
theorem spec_redJ (m su life : Int) (l : List JB) (i : Nat) (h : i < l.length) (k : Nat) : spec_ShopOK.l0 (k + 1) l (i : Int) m su life = (spec_NameOK.f k (rd_T68 l (i : Int)).f0).bind fun t => spec_ShopOK.j2 k l (i : Int) (!(t && baseJ (rd_T68 l (i : Int)))) m su life (rd_T68 l (i : Int)).f0 (rd_T68 l (i : Int)).f1 (rd_T68 l (i : Int)).f2 := by
  rw [spec_ShopOK.l0, if_pos (by omega), if_pos (by omega)]
  congr 1
  funext t
  generalize rd_T68 l (i : Int) = x
  cases t with
  | false => rfl
  | true =>
    rw [if_pos rfl, Bool.true_and]
    exact base_chain x _ _ (fun b => spec_ShopOK.j2 k l (i : Int) b m su life x.f0 x.f1 x.f2) rfl rfl
theorem impl_redJ (m su life : Int) (l : List JB) (i : Nat) (h : i < l.length) (S : List ByteArray) (k : Nat) : impl_ShopOK.l0 (k + 1) S l (l.length : Int) (i : Int) m su life = (impl_NameOK.f k (rd_T68 l (i : Int)).f0).bind fun t => if t = true then (if (rd_T68 l (i : Int)).f0.size ≤ 40 then (if S.length < 1000 then (if inB S (rd_T68 l (i : Int)).f0 = true then impl_ShopOK.j2 k S l (l.length : Int) (i : Int) true m su life (rd_T68 l (i : Int)).f0 (rd_T68 l (i : Int)).f1 (rd_T68 l (i : Int)).f2 else impl_ShopOK.j2 k S l (l.length : Int) (i : Int) (!baseJ (rd_T68 l (i : Int))) m su life (rd_T68 l (i : Int)).f0 (rd_T68 l (i : Int)).f1 (rd_T68 l (i : Int)).f2) else none) else none) else impl_ShopOK.j2 k S l (l.length : Int) (i : Int) true m su life (rd_T68 l (i : Int)).f0 (rd_T68 l (i : Int)).f1 (rd_T68 l (i : Int)).f2 := by
  rw [impl_ShopOK.l0, if_pos (by omega), if_pos (by omega), if_pos (by omega)]
  congr 1
  funext t
  generalize rd_T68 l (i : Int) = x
  rw [base_chain x _ _ (fun b => impl_ShopOK.j2 k S l (l.length : Int) (i : Int) b m su life x.f0 x.f1 x.f2) rfl rfl]
theorem spec_shop (m su life : Int) (l : List JB) (hn : l.length ≤ 1048576) (hs : ∀ x ∈ l, x.f0.size ≤ maxLen) : Ev (fun k => spec_ShopOK.f k m su life l) (shopB m su life l) := by
  have stop : shopB m su life l = false → Ev (fun k => spec_ShopOK.j0 k l true m su life) (shopB m su life l) := fun h => by
    rw [h]; exact ev_some fun k => by simp only [spec_ShopOK.j0, if_true]
  have no : ¬ (1 ≤ m ∧ m ≤ 6 ∧ 0 ≤ su ∧ su ≤ 1000 ∧ 1 ≤ life ∧ life ≤ 1000 ∧ l.length ≤ 20) → shopB m su life l = false := fun h => by unfold shopB; rw [if_neg h]
  unfold spec_ShopOK.f
  by_cases h1 : m < 1
  · simp only [if_pos h1]; exact stop (no (by omega))
  simp only [if_neg h1]
  by_cases h2 : m > 6
  · simp only [if_pos h2]; exact stop (no (by omega))
  simp only [if_neg h2]
  refine Ev.bind (within1 su 0 1000) ?_
  by_cases h3 : 0 ≤ su ∧ su ≤ 1000
  · simp only [decide_eq_true h3, if_true]
    refine Ev.bind (within1 life 1 1000) ?_
    by_cases h4 : 1 ≤ life ∧ life ≤ 1000
    · simp only [decide_eq_true h4, if_true]
      by_cases h5 : (l.length : Int) > 20
      · simp only [decide_eq_true h5]; exact stop (no (by omega))
      simp only [decide_eq_false h5]
      refine ev_one (f := fun k => spec_ShopOK.l0 k l 0 m su life) (fun k => by simp only [spec_ShopOK.j0, Bool.false_eq_true, if_false]) ?_
      have hc : 1 ≤ m ∧ m ≤ 6 ∧ 0 ≤ su ∧ su ≤ 1000 ∧ 1 ≤ life ∧ life ≤ 1000 ∧ l.length ≤ 20 := by omega
      unfold shopB
      rw [if_pos hc]
      refine all_steps (fun i k => spec_ShopOK.l0 k l (i : Int) m su life) l.length (okJ m life l) (fun i hi hp q hq => ?_) (fun i hi hp => ?_) (fun _ => ev_some fun k => by
        show spec_ShopOK.l0 (k + 1) l (l.length : Int) m su life = _
        simp only [spec_ShopOK.l0]; rw [if_neg (by omega)])
      · have hsz : (rd_T68 l (i : Int)).f0.size ≤ maxLen := by rw [rdJ l i hi]; exact hs _ (List.getElem_mem hi)
        unfold okJ at hp
        simp only [Bool.and_eq_true, Bool.not_eq_true'] at hp
        have hb := hp.1.1.2
        unfold baseJ at hb
        rw [decide_eq_true_eq] at hb
        refine ev_one (spec_redJ m su life l i hi) ?_
        refine Ev.bind (nameB_spec _ hsz).1 ?_
        simp only [hp.1.1.1, hp.1.1.2, Bool.and_self, Bool.not_true]
        refine ev_one (fun k => by simp only [spec_ShopOK.j2, Bool.false_eq_true, if_false]; rfl) ?_
        refine spec_dupJ m su life l (by omega) i hi ?_
        simp only [hp.1.2, Bool.false_eq_true, if_false]
        refine spec_steps m su life l (by omega) i hi (by omega) ?_
        simp only [hp.2, if_true]
        exact hq
      · have hsz : (rd_T68 l (i : Int)).f0.size ≤ maxLen := by rw [rdJ l i hi]; exact hs _ (List.getElem_mem hi)
        unfold okJ at hp
        refine ev_one (spec_redJ m su life l i hi) ?_
        refine Ev.bind (nameB_spec _ hsz).1 ?_
        cases hb : (nameB (rd_T68 l (i : Int)).f0 && baseJ (rd_T68 l (i : Int))) with
        | false => exact ev_some fun k => by simp only [spec_ShopOK.j2, Bool.not_false, if_true]
        | true =>
          rw [hb, Bool.true_and] at hp
          have hb2 := (Bool.and_eq_true _ _ ▸ hb : nameB (rd_T68 l (i : Int)).f0 = true ∧ baseJ (rd_T68 l (i : Int)) = true).2
          unfold baseJ at hb2
          rw [decide_eq_true_eq] at hb2
          simp only [Bool.not_true]
          refine ev_one (fun k => by simp only [spec_ShopOK.j2, Bool.false_eq_true, if_false]; rfl) ?_
          refine spec_dupJ m su life l (by omega) i hi ?_
          cases hd : inB (namesJ (l.take i)) (rd_T68 l (i : Int)).f0 with
          | true => simp only [if_true]; exact Ev.now _
          | false =>
            rw [hd] at hp
            have hp' : stepsB m life (rd_T68 l (i : Int)).f2 = false := by simpa using hp
            simp only [Bool.false_eq_true, if_false]
            refine spec_steps m su life l (by omega) i hi (by omega) ?_
            simp only [hp', Bool.false_eq_true, if_false]
            exact Ev.now _
    · simp only [decide_eq_false h4, Bool.false_eq_true, if_false]; exact stop (no (by omega))
  · simp only [decide_eq_false h3, Bool.false_eq_true, if_false]; exact stop (no (by omega))
theorem impl_shop (m su life : Int) (l : List JB) (hn : l.length ≤ 1048576) (hs : ∀ x ∈ l, x.f0.size ≤ maxLen) : Ev (fun k => impl_ShopOK.f k m su life l) (shopB m su life l) := by
  have stop : shopB m su life l = false → Ev (fun k => impl_ShopOK.j0 k l true m su life) (shopB m su life l) := fun h => by
    rw [h]; exact ev_some fun k => by simp only [impl_ShopOK.j0, if_true]
  have no : ¬ (1 ≤ m ∧ m ≤ 6 ∧ 0 ≤ su ∧ su ≤ 1000 ∧ 1 ≤ life ∧ life ≤ 1000 ∧ l.length ≤ 20) → shopB m su life l = false := fun h => by unfold shopB; rw [if_neg h]
  unfold impl_ShopOK.f
  by_cases h0 : (l.length : Int) > 20
  · simp only [if_pos h0]; exact stop (no (by omega))
  simp only [if_neg h0]
  by_cases h1 : m < 1
  · simp only [if_pos h1]; exact stop (no (by omega))
  simp only [if_neg h1]
  by_cases h2 : m > 6
  · simp only [if_pos h2]; exact stop (no (by omega))
  simp only [if_neg h2]
  by_cases h3 : su < 0
  · simp only [if_pos h3]; exact stop (no (by omega))
  simp only [if_neg h3]
  by_cases h4 : su > 1000
  · simp only [if_pos h4]; exact stop (no (by omega))
  simp only [if_neg h4]
  by_cases h5 : life < 1
  · simp only [if_pos h5]; exact stop (no (by omega))
  simp only [if_neg h5]
  by_cases h6 : life > 1000
  · simp only [decide_eq_true h6]; exact stop (no (by omega))
  simp only [decide_eq_false h6]
  refine ev_one (f := fun k => impl_ShopOK.l0 k [] l (l.length : Int) 0 m su life) (fun k => by simp only [impl_ShopOK.j0, Bool.false_eq_true, if_false]) ?_
  have hc : 1 ≤ m ∧ m ≤ 6 ∧ 0 ≤ su ∧ su ≤ 1000 ∧ 1 ≤ life ∧ life ≤ 1000 ∧ l.length ≤ 20 := by omega
  unfold shopB
  rw [if_pos hc]
  have bad : ∀ (i : Nat) S nm due st, Ev (fun k => impl_ShopOK.j2 k S l (l.length : Int) (i : Int) true m su life nm due st) false := fun i S nm due st => ev_some fun k => by simp only [impl_ShopOK.j2, if_true]
  refine all_steps (fun i k => impl_ShopOK.l0 k (namesJ (l.take i)) l (l.length : Int) (i : Int) m su life) l.length (okJ m life l) (fun i hi hp q hq => ?_) (fun i hi hp => ?_) (fun _ => ev_some fun k => by
    show impl_ShopOK.l0 (k + 1) _ l (l.length : Int) (l.length : Int) m su life = _
    simp only [impl_ShopOK.l0]; rw [if_neg (by omega)])
  · have hsz : (rd_T68 l (i : Int)).f0.size ≤ maxLen := by rw [rdJ l i hi]; exact hs _ (List.getElem_mem hi)
    unfold okJ at hp
    simp only [Bool.and_eq_true, Bool.not_eq_true'] at hp
    have hb := hp.1.1.2
    unfold baseJ at hb
    rw [decide_eq_true_eq] at hb
    have hz := nameB_size _ hsz hp.1.1.1
    have hS : (namesJ (l.take i)).length < 1000 := by simp [namesJ]; omega
    refine ev_one (impl_redJ m su life l i hi _) ?_
    refine Ev.bind (nameB_spec _ hsz).2 ?_
    simp only [hp.1.1.1, hp.1.1.2, hp.1.2, if_true, Bool.false_eq_true, if_false, if_pos hz, if_pos hS, Bool.not_true]
    refine ev_one (fun k => by simp only [impl_ShopOK.j2, Bool.false_eq_true, if_false, if_pos hz, if_pos hS]; rfl) ?_
    refine impl_steps m su life l (by omega) i hi (by omega) ?_
    simp only [hp.2, if_true]
    have e : namesJ (l.take i) ++ [(rd_T68 l (i : Int)).f0] = namesJ (l.take (i + 1)) := by
      rw [rdJ l i hi]; unfold namesJ; rw [List.take_succ_eq_append_getElem hi, List.map_append]; rfl
    rw [e]
    exact hq
  · have hsz : (rd_T68 l (i : Int)).f0.size ≤ maxLen := by rw [rdJ l i hi]; exact hs _ (List.getElem_mem hi)
    have hS : (namesJ (l.take i)).length < 1000 := by simp [namesJ]; omega
    unfold okJ at hp
    refine ev_one (impl_redJ m su life l i hi _) ?_
    refine Ev.bind (nameB_spec _ hsz).2 ?_
    cases hb : nameB (rd_T68 l (i : Int)).f0 with
    | false => simp only [Bool.false_eq_true, if_false]; exact bad i _ _ _ _
    | true =>
      have hz := nameB_size _ hsz hb
      rw [hb, Bool.true_and] at hp
      simp only [if_true, if_pos hz, if_pos hS]
      cases hd : inB (namesJ (l.take i)) (rd_T68 l (i : Int)).f0 with
      | true => simp only [if_true]; exact bad i _ _ _ _
      | false =>
        simp only [Bool.false_eq_true, if_false]
        cases hx : baseJ (rd_T68 l (i : Int)) with
        | false => exact bad i _ _ _ _
        | true =>
          rw [hd, hx] at hp
          have hp' : stepsB m life (rd_T68 l (i : Int)).f2 = false := by simpa using hp
          unfold baseJ at hx
          rw [decide_eq_true_eq] at hx
          simp only [Bool.not_true]
          refine ev_one (fun k => by simp only [impl_ShopOK.j2, Bool.false_eq_true, if_false, if_pos hz, if_pos hS]; rfl) ?_
          refine impl_steps m su life l (by omega) i hi (by omega) ?_
          simp only [hp', Bool.false_eq_true, if_false]
          exact Ev.now _

def stConv (x : S87) : ST := ⟨x.f0, x.f1, x.f2, x.f3⟩
def jbConv (x : S64) : JB := ⟨x.f0, x.f1, x.f2.map stConv⟩
theorem copy_steps (l : List S87) (h : l.length ≤ 1048576) : Ev (fun k => laws_toStepS.f k l) (l.map stConv) := by
  have := copy_loop laws_toStepS.l0 stConv z87 (fun k x0 x3 i h1 h2 => by
    simp only [laws_toStepS.l0, laws_toStep.f, Option.bind_some]
    rw [if_pos (by omega), if_pos (by omega), if_pos (by omega)]
    rfl) (fun k x0 x3 => by simp only [laws_toStepS.l0]; rw [if_neg (by omega)]) l (by omega) (List.replicate l.length z71) (by simp)
  unfold laws_toStepS.f
  simp only [show (0 : Int) ≤ (l.length : Int) from by omega, if_true, Int.toNat_natCast, show l.length ≤ 8796093022208 from by omega]
  exact this
theorem rdJ0 (l : List S64) (i : Nat) (h : i < l.length) : rd_T64 l (i : Int) = l[i] := by
  unfold rd_T64; simp [h]
theorem copy_jobs (l : List S64) (h : l.length ≤ 1048576) (hs : ∀ x ∈ l, x.f2.length ≤ 1048576) : Ev (fun k => laws_toJobS.f k l) (l.map jbConv) := by
  unfold laws_toJobS.f
  simp only [show (0 : Int) ≤ (l.length : Int) from by omega, if_true, Int.toNat_natCast, show l.length ≤ 5864062014805 from by omega]
  have := ev_steps (r := l.map jbConv) (fun i k => laws_toJobS.l0 k l ((l.take i).map jbConv ++ (List.replicate l.length z68).drop i) (i : Int)) l.length (fun i hi hn => by
    show Ev (fun k => laws_toJobS.l0 k l ((l.take i).map jbConv ++ (List.replicate l.length z68).drop i) (i : Int)) _
    have hl : ((l.take i).map jbConv).length = i := by simp; omega
    have hd : (List.replicate l.length z68).drop i = z68 :: (List.replicate l.length z68).drop (i + 1) := by
      rw [List.drop_eq_getElem_cons (by simpa using hi)]; simp
    have hm := hs _ (List.getElem_mem hi)
    have hj : Ev (fun k => laws_toJob.f k l[i].f0 l[i].f1 l[i].f2) (l[i].f0, l[i].f1, l[i].f2.map stConv) := by
      unfold laws_toJob.f
      exact Ev.bind (copy_steps _ hm) (Ev.now _)
    refine ev_one (fun k => by simp only [laws_toJobS.l0]; rw [if_pos (by omega), if_pos (by omega), rdJ0 l i hi]) ?_
    refine Ev.bind hj ?_
    refine Ev.congr (fun k => ?_) hn
    rw [if_pos (by simp; omega), wr_succ i (by omega)]
    congr 1
    rw [hd, Int.toNat_natCast, List.set_append_right _ _ (by omega), hl, Nat.sub_self, List.set_cons_zero, List.take_succ_eq_append_getElem hi, List.map_append, List.append_assoc]
    rfl) (ev_some fun k => by
    show laws_toJobS.l0 (k + 1) l _ (l.length : Int) = _
    simp only [laws_toJobS.l0]; rw [if_neg (by omega)]
    simp)
  simpa using this
theorem same_steps (l : List ST) (h : l.length ≤ 1048576) : Ev (fun k => laws_eqStepS.f k l l) true := by
  unfold laws_eqStepS.f
  simp only [if_true]
  exact same_loop laws_eqStepS.l0 l (fun k i hi => by
    simp only [laws_eqStepS.l0, laws_eqStep.f, if_true, Option.bind_some]
    rw [if_pos (by omega), if_pos (by omega), if_pos (by omega)]) (fun k => by simp only [laws_eqStepS.l0]; rw [if_neg (by omega)]) (by omega)
theorem same_jobs (l : List JB) (h : l.length ≤ 1048576) (hs : ∀ x ∈ l, x.f2.length ≤ 1048576) : Ev (fun k => laws_eqJobS.f k l l) true := by
  unfold laws_eqJobS.f
  simp only [if_true]
  refine ev_steps (r := true) (fun i k => laws_eqJobS.l0 k l l (i : Int)) l.length (fun i hi hn => ?_) (ev_some fun k => by
    show laws_eqJobS.l0 (k + 1) l l (l.length : Int) = _
    simp only [laws_eqJobS.l0]; rw [if_neg (by omega)])
  have hm := hs _ (List.getElem_mem hi)
  have hj : Ev (fun k => laws_eqJob.f k l[i].f0 l[i].f1 l[i].f2 l[i].f0 l[i].f1 l[i].f2) true := by
    unfold laws_eqJob.f
    simp only [if_true]
    refine Ev.bind (same_steps _ hm) ?_
    simp only [if_true]; exact Ev.now _
  refine ev_one (fun k => by simp only [laws_eqJobS.l0]; rw [if_pos (by omega), if_pos (by omega), if_pos (by omega), rdJ l i hi]) ?_
  refine Ev.bind hj ?_
  simp only [if_true]
  rw [wr_succ i (by omega)]
  exact hn
theorem sz_jobs (l : List S64) (hl : l.length ≤ maxLen) (hs : ∀ x ∈ l, x.f0.size ≤ maxLen ∧ x.f2.length ≤ maxLen) : ∃ r, Ev (fun k => laws_szJobS.f k l 1048576) r ∧ (0 ≤ r → l.length ≤ 1048576 ∧ ∀ x ∈ l, x.f2.length ≤ 1048576) := by
  unfold maxLen at hl
  unfold laws_szJobS.f
  rw [wr (n := 1048576 - (l.length : Int)) (by omega) (by omega)]
  by_cases h : 1048576 - (l.length : Int) < 0
  · simp only [if_pos h]; exact ⟨-1, Ev.now _, fun h => by omega⟩
  simp only [if_neg h]
  have key : ∀ (m i : Nat) (a : Int), i + m = l.length → 0 ≤ a → a ≤ 1048576 → ∃ r, Ev (fun k => laws_szJobS.l0 k l a (i : Int)) r ∧ (0 ≤ r → ∀ j, i ≤ j → (hj : j < l.length) → l[j].f2.length ≤ 1048576) := by
    intro m
    induction m with
    | zero =>
      intro i a hi h0 h1
      obtain rfl : i = l.length := by omega
      exact ⟨a, ev_some fun k => by simp only [laws_szJobS.l0]; rw [if_neg (by omega)], fun _ j hj hj' => by omega⟩
    | succ m ih =>
      intro i a hi h0 h1
      have hz := hs _ (List.getElem_mem (show i < l.length by omega))
      obtain ⟨z1, z2⟩ := hz
      unfold maxLen at z1 z2
      have red : ∀ k, laws_szJobS.l0 (k + 1) l a (i : Int) = (laws_szJob.f (l[i]'(by omega)).f0 (l[i]'(by omega)).f1 (l[i]'(by omega)).f2 a).bind fun t => if t < 0 then some (-1) else laws_szJobS.l0 k l t ((i + 1 : Nat) : Int) := fun k => by
        simp only [laws_szJobS.l0]; rw [if_pos (by omega), if_pos (by omega), rdJ0 l i (by omega), wr_succ i (by omega)]
      by_cases hc : a - ((l[i]'(by omega)).f0.size : Int) < 0
      · refine ⟨-1, ev_some fun k => ?_, fun h => by omega⟩
        rw [red]
        unfold laws_szJob.f
        rw [wr (by omega) (by omega), if_pos hc]; rfl
      · by_cases hd : a - ((l[i]'(by omega)).f0.size : Int) - ((l[i]'(by omega)).f2.length : Int) < 0
        · refine ⟨-1, ev_some fun k => ?_, fun h => by omega⟩
          rw [red]
          unfold laws_szJob.f laws_szStepS.f
          rw [wr (n := a - ((l[i]'(by omega)).f0.size : Int)) (by omega) (by omega), if_neg hc, wr (by omega) (by omega), if_pos hd]; rfl
        · obtain ⟨r, hr, hr2⟩ := ih (i + 1) (a - ((l[i]'(by omega)).f0.size : Int) - ((l[i]'(by omega)).f2.length : Int)) (by omega) (by omega) (by omega)
          refine ⟨r, ev_one (fun k => ?_) hr, fun h j hj hj' => ?_⟩
          · rw [red]
            unfold laws_szJob.f laws_szStepS.f
            rw [wr (n := a - ((l[i]'(by omega)).f0.size : Int)) (by omega) (by omega), if_neg hc, wr (by omega) (by omega), if_neg hd]
            simp only [Option.bind_some]
            rw [if_neg hd]
            simp only [Option.bind_some]
            rw [if_neg hd]
          · rcases Nat.lt_or_ge i j with h' | h'
            · exact hr2 h j h' hj'
            · obtain rfl : j = i := by omega
              omega
  obtain ⟨r, hr, hr2⟩ := key l.length 0 (1048576 - (l.length : Int)) (by omega) (by omega) (by omega)
  refine ⟨r, hr, fun h => ⟨by omega, fun x hx => ?_⟩⟩
  obtain ⟨j, hj, rfl⟩ := List.getElem_of_mem hx
  exact hr2 h j (by omega) hj

/-! ### Bound, of both -/
/-- Two loops that come to the same. -/
def Both {α : Type} (g f : Nat → Option α) : Prop := ∃ r, Ev g r ∧ Ev f r
theorem Both.one {α : Type} {g f g' f' : Nat → Option α} (h : ∀ k, g (k + 1) = g' k) (h' : ∀ k, f (k + 1) = f' k) (c : Both g' f') : Both g f := by
  obtain ⟨r, e, e'⟩ := c
  exact ⟨r, ev_one h e, ev_one h' e'⟩
structure Rel (m : Int) (L : List Int) (S : List Bool) (I : List (Int × Int)) : Prop where
  loads : (L.length : Int) = m
  used : (S.length : Int) = 10 * m
  all : ∀ a b, 0 ≤ a → a < m → 0 ≤ b → b ≤ 9 → rdOf false S (10 * a + b) = inP I a b
theorem Rel.put {m : Int} {L : List Int} {S : List Bool} {I : List (Int × Int)} (h : Rel m L S I) (n : Nat) (v : Int) : Rel m (L.set n v) S I := ⟨by rw [List.length_set]; exact h.loads, h.used, h.all⟩
theorem Rel.use {m : Int} {L : List Int} {S : List Bool} {I : List (Int × Int)} (h : Rel m L S I) (p q : Int) (hp : 0 ≤ p ∧ p < m) (hq : 0 ≤ q ∧ q ≤ 9) : Rel m L (S.set (10 * p + q).toNat true) (I ++ [(p, q)]) := by
  refine ⟨h.loads, by rw [List.length_set]; exact h.used, fun a b ha ha' hb hb' => ?_⟩
  have e := h.all a b ha ha' hb hb'
  rw [inP_snoc, ← e]
  unfold rdOf
  by_cases c : p = a ∧ q = b
  · obtain ⟨rfl, rfl⟩ := c
    have hl := h.used
    simp only [List.getD, List.getElem?_set]
    rw [if_pos trivial, if_pos (by omega)]
    simp
  · have c' : (p == a && q == b) = false := by simpa using c
    have hne : (10 * p + q).toNat ≠ (10 * a + b).toNat := by omega
    rw [c', Bool.or_false]
    simp only [List.getD, List.getElem?_set, if_neg hne]
theorem okJ_steps {m life : Int} {l : List JB} {i : Nat} (h : okJ m life l i = true) : (rd_T68 l (i : Int)).f2.length ≤ 8 ∧ ∀ j, j < (rd_T68 l (i : Int)).f2.length → okStep m life (rd_T71 (rd_T68 l (i : Int)).f2 (j : Int)) = true := by
  unfold okJ at h
  simp only [Bool.and_eq_true] at h
  obtain ⟨⟨⟨_, h1⟩, _⟩, h2⟩ := h
  obtain ⟨_, _, _, h3⟩ := of_decide_eq_true h1
  refine ⟨h3, ?_⟩
  unfold stepsB at h2
  split at h2
  · rename_i c; exact c
  · cases h2
section
variable {m su life : Int} {l : List JB}
theorem fin_both (L : List Int) (hL : (L.length : Int) = m) (hm : m ≤ 6) : ∀ (n : Nat) (x i : Int), i + (n : Int) = m → 0 ≤ i → Both (fun k => spec_Bound.l2 k x L i m su life) (fun k => impl_Bound.l2 k x L (L.length : Int) i) := by
  intro n
  induction n with
  | zero =>
    intro x i hi _
    exact ⟨(x, 0), ev_some fun k => by rw [spec_Bound.l2, if_neg (by omega)], ev_some fun k => by rw [impl_Bound.l2, if_neg (by omega)]⟩
  | succ n ih =>
    intro x i hi h0
    refine Both.one (fun k => ?_) (fun k => ?_) (ih (mx x (rd L i)) (i + 1) (by omega) (by omega))
    · rw [spec_Bound.l2, if_pos (by omega), if_pos h0, if_pos (by omega), wr (n := i + 1) (by omega) (by omega)]
    · rw [impl_Bound.l2, if_pos (by omega), if_pos h0, if_pos (by omega), wr (n := i + 1) (by omega) (by omega)]
theorem steps_both (hm : 1 ≤ m ∧ m ≤ 6) (j : Nat) (hj : j < l.length) (hl : l.length ≤ 20) (hok : okJ m life l j = true) (x6 : Int)
    (cont : ∀ (x10 : Int) (L : List Int) (S : List Bool) (I : List (Int × Int)), Rel m L S I → I.length ≤ 8 * (j + 1) → Both (fun k => spec_Bound.l0 k l (mx x6 x10) L S (wrap64 ((j : Int) + 1)) m su life) (fun k => impl_Bound.l0 k (mx x6 x10) L I l (l.length : Int) (wrap64 ((j : Int) + 1)) m su life)) :
    ∀ (n i : Nat) (x10 : Int) (L : List Int) (S : List Bool) (I : List (Int × Int)), i + n = (rd_T68 l (j : Int)).f2.length → Rel m L S I → I.length ≤ 8 * j + i →
      Both (fun k => spec_Bound.l1 k l x6 L S (j : Int) x10 (i : Int) m su life) (fun k => impl_Bound.l1 k x6 L I x10 l (l.length : Int) (j : Int) (rd_T68 l (j : Int)).f2 ((rd_T68 l (j : Int)).f2.length : Int) (i : Int) m su life) := by
  obtain ⟨h8, hst⟩ := okJ_steps hok
  intro n
  induction n with
  | zero =>
    intro i x10 L S I hi hR hI
    refine Both.one (fun k => ?_) (fun k => ?_) (cont x10 L S I hR (by omega))
    · rw [spec_Bound.l1, if_pos (by omega), if_pos (by omega), if_neg (by omega)]
    · rw [impl_Bound.l1, if_neg (by omega)]
  | succ n ih =>
    intro i x10 L S I hi hR hI
    obtain ⟨p0, p1, _, _, q0, q1, _, _⟩ := of_decide_eq_true (hst i (by omega))
    have hl1 := hR.loads
    have hl2 := hR.used
    have hsm : Small (rd_T71 (rd_T68 l (j : Int)).f2 (i : Int)).f0 (rd_T71 (rd_T68 l (j : Int)).f2 (i : Int)).f2 := ⟨⟨p0, by omega⟩, q0, by omega⟩
    have hat := hR.all _ _ p0 p1 q0 q1
    have wi : wrap64 ((i : Int) + 1) = ((i + 1 : Nat) : Int) := wr_succ i (by omega)
    have wk : wrap64 (wrap64 (10 * (rd_T71 (rd_T68 l (j : Int)).f2 (i : Int)).f0) + (rd_T71 (rd_T68 l (j : Int)).f2 (i : Int)).f2) = 10 * (rd_T71 (rd_T68 l (j : Int)).f2 (i : Int)).f0 + (rd_T71 (rd_T68 l (j : Int)).f2 (i : Int)).f2 := by
      rw [wr (n := 10 * _) (by omega) (by omega), wr (by omega) (by omega)]
    generalize hs : rd_T71 (rd_T68 l (j : Int)).f2 (i : Int) = s at *
    cases hin : inP I s.f0 s.f2 with
    | true =>
      rw [hin] at hat
      refine Both.one (fun k => ?_) (fun k => ?_) (ih (i + 1) (wrap64 (x10 + s.f1)) (L.set s.f0.toNat (wrap64 (rd L s.f0 + s.f1))) S I (by omega) (hR.put _ _) (by omega))
      · rw [spec_Bound.l1, if_pos (by omega), if_pos (by omega), if_pos (by omega), if_pos (by omega), hs, if_pos p0, if_pos (by omega), Option.bind_some, wk, if_pos (by omega), if_pos (by omega), if_pos hat, wi]
      · rw [impl_Bound.l1, if_pos (by omega), if_pos (by omega), if_pos (by omega), hs, if_pos p0, if_pos (by omega), Option.bind_some, if_pos hsm, if_pos (by omega), if_pos hin, wi]
    | false =>
      rw [hin] at hat
      refine Both.one (fun k => ?_) (fun k => ?_) (ih (i + 1) (wrap64 (x10 + s.f1)) ((L.set s.f0.toNat (wrap64 (rd L s.f0 + s.f1))).set s.f0.toNat (wrap64 (rd (L.set s.f0.toNat (wrap64 (rd L s.f0 + s.f1))) s.f0 + su))) (S.set (10 * s.f0 + s.f2).toNat true) (I ++ [(s.f0, s.f2)]) (by omega) (((hR.use s.f0 s.f2 ⟨p0, p1⟩ ⟨q0, q1⟩).put _ _).put _ _) (by simp; omega))
      · rw [spec_Bound.l1, if_pos (by omega), if_pos (by omega), if_pos (by omega), if_pos (by omega), hs, if_pos p0, if_pos (by omega), Option.bind_some, wk, if_pos (by omega), if_pos (by omega), if_neg (by rw [hat]; decide), wi]
      · rw [impl_Bound.l1, if_pos (by omega), if_pos (by omega), if_pos (by omega), hs, if_pos p0, if_pos (by omega), Option.bind_some, if_pos hsm, if_pos (by omega), if_neg (by rw [hin]; decide), wi]
theorem jobs_both (hm : 1 ≤ m ∧ m ≤ 6) (hl : l.length ≤ 20) (hok : ∀ i, i < l.length → okJ m life l i = true) : ∀ (n j : Nat) (x6 : Int) (L : List Int) (S : List Bool) (I : List (Int × Int)), j + n = l.length → Rel m L S I → I.length ≤ 8 * j →
    Both (fun k => spec_Bound.l0 k l x6 L S (j : Int) m su life) (fun k => impl_Bound.l0 k x6 L I l (l.length : Int) (j : Int) m su life) := by
  intro n
  induction n with
  | zero =>
    intro j x6 L S I hj hR _
    refine Both.one (fun k => ?_) (fun k => ?_) (fin_both (su := su) (life := life) L hR.loads hm.2 m.toNat x6 0 (by omega) (by omega))
    · rw [spec_Bound.l0, if_neg (by omega)]
    · rw [impl_Bound.l0, if_neg (by omega)]
  | succ n ih =>
    intro j x6 L S I hj hR hI
    refine Both.one (fun k => ?_) (fun k => ?_) (steps_both (su := su) hm j (by omega) hl (hok j (by omega)) x6 (fun x10 L' S' I' hR' hI' => by
      rw [wr_succ j (by omega)]
      exact ih (j + 1) (mx x6 x10) L' S' I' (by omega) hR' hI') _ 0 0 L S I (Nat.zero_add _) hR (by omega))
    · rw [spec_Bound.l0, if_pos (by omega)]; rfl
    · rw [impl_Bound.l0, if_pos (by omega), if_pos (by omega), if_pos (by omega)]; rfl
end
theorem bound_both (m su life : Int) (l : List JB) (hn : l.length ≤ 1048576) (hs : ∀ x ∈ l, x.f0.size ≤ maxLen) : Both (fun k => spec_Bound.f k m su life l) (fun k => impl_Bound.f k m su life l) := by
  unfold spec_Bound.f impl_Bound.f
  by_cases h4 : (l.length : Int) > 4096
  · simp only [if_pos h4]; exact ⟨_, Ev.now _, Ev.now _⟩
  simp only [if_neg h4]
  have a := spec_shop m su life l hn hs
  have b := impl_shop m su life l hn hs
  cases hok : shopB m su life l with
  | false =>
    rw [hok] at a b
    exact ⟨(0, 1), Ev.bind a (Ev.now _), Ev.bind b (Ev.now _)⟩
  | true =>
    rw [hok] at a b
    unfold shopB at hok
    split at hok
    · rename_i c
      obtain ⟨c1, c2, _, _, _, _, c7⟩ := c
      split at hok
      · rename_i d
        obtain ⟨r, e, e'⟩ := jobs_both (su := su) ⟨c1, c2⟩ c7 d l.length 0 0 (List.replicate m.toNat 0) (List.replicate (10 * m).toNat false) [] (Nat.zero_add _) ⟨by simp; omega, by simp; omega, fun a b _ _ _ _ => by
          unfold rdOf inP
          simp [List.getD, List.getElem?_replicate]
          split <;> rfl⟩ (by simp)
        have w10 : wrap64 (10 * m) = 10 * m := wr (by omega) (by omega)
        refine ⟨r, Ev.bind a ?_, Ev.bind b ?_⟩
        · simp only [if_true, w10, if_pos (show 0 ≤ m by omega), if_pos (show m.toNat ≤ 35184372088832 by omega), if_pos (show 0 ≤ 10 * m by omega), if_pos (show (10 * m).toNat ≤ 281474976710656 by omega)]
          exact e
        · simp only [if_true, if_pos (show 0 ≤ m by omega), if_pos (show m.toNat ≤ 35184372088832 by omega)]
          exact e'
      · cases hok
    · cases hok

theorem FnExactBound : laws_FnExactBound.Plain := by
  intro m su life l _ _ _ hl
  refine Ev.rounds ?_
  have hs1 : ∀ x ∈ l, x.f0.size ≤ maxLen ∧ x.f2.length ≤ maxLen := fun x hx => ⟨(hl.2 x hx).1, (hl.2 x hx).2.2.1⟩
  obtain ⟨r, hz, hz1⟩ := sz_jobs l hl.1 hs1
  unfold laws_FnExactBound.f
  refine Ev.bind hz ?_
  by_cases h : r < 0
  · simp only [if_pos h]; exact Ev.now _
  simp only [if_neg h, laws_toShop.f, Option.bind_some]
  obtain ⟨hn, hn2⟩ := hz1 (by omega)
  have hc := copy_jobs l hn hn2
  have hs2 : ∀ x ∈ l.map jbConv, x.f0.size ≤ maxLen := by
    intro x hx
    obtain ⟨y, hy, rfl⟩ := List.mem_map.1 hx
    exact (hs1 y hy).1
  have hs3 : ∀ x ∈ l.map jbConv, x.f2.length ≤ 1048576 := by
    intro x hx
    obtain ⟨y, hy, rfl⟩ := List.mem_map.1 hx
    show (y.f2.map stConv).length ≤ _
    rw [List.length_map]; exact hn2 y hy
  have hln : (l.map jbConv).length ≤ 1048576 := by simp; omega
  obtain ⟨⟨r1, r2⟩, es, ei⟩ := bound_both m su life (l.map jbConv) hln hs2
  refine Ev.bind hc ?_
  refine Ev.bind es ?_
  refine Ev.bind hc ?_
  refine Ev.bind ei ?_
  simp only [if_true, bne_self_eq_false]
  refine ev_one (f := fun k => (laws_toJobS.f k l).bind fun t228 => ((laws_eqJobS.f k (l.map jbConv) t228).bind fun t231 => (if t231 = true then (some true) else (some false)))) (fun k => by rw [laws_FnExactBound.j0, if_neg (by simp)]) ?_
  refine Ev.bind hc ?_
  refine Ev.bind (same_jobs (l.map jbConv) hln hs3) ?_
  simp only [if_true]
  exact Ev.now _
end Go.Proofs.YthmeijbiemkbaaaDoor.Pure
