/- FnKinds over numbers and lists alone: the program's kind of a drawn hole and shaft is what the sizes say. -/
import Derived.Test.YtbfjpolihoaafaaSFnKinds
import Derived.Test.YtbfjpolihoaafaaLib
namespace Go.Proofs.Ytbfjpolihoaafaa.Pure
open Go.RowKit Go.Proofs.Ytbfjpolihoaafaa.PFnKinds Go.Proofs.YtbfjpolihoaafaaW.PrintWords Go.Proofs.YtbfjpolihoaafaaW.PrintLast Go.Proofs.Ytbfjpolihoaafaa.Lib
set_option linter.unusedVariables false
set_option linter.unusedSimpArgs false

/-- What a source of choices is, after at most so many bytes. -/
structure Src (l : List Int) (a s : Int) (n : Nat) : Prop where
  bytes : ∀ x ∈ l, 0 ≤ x ∧ x ≤ 255
  len : l.length ≤ 1048577
  lo : 0 ≤ a
  hi : a ≤ n
  sl : 0 ≤ s
  sh : s < 2147483648
theorem Src.up {l : List Int} {a s : Int} {n m : Nat} (h : Src l a s n) (hm : n ≤ m) : Src l a s m := ⟨h.bytes, h.len, h.lo, by have := h.hi; omega, h.sl, h.sh⟩
theorem src_new (l : List Int) (hb : ∀ x ∈ l, 0 ≤ x ∧ x ≤ 255) (hl : l.length ≤ 1048577) : ∃ s, spec_l00Source.f l = some (l, 0, s) ∧ Src l 0 s 0 :=
  ⟨_, rfl, ⟨hb, hl, by omega, by omega, by omega, by omega⟩⟩
theorem tmod_pos {a b : Int} (h0 : 0 ≤ a) (hb : 0 < b) : 0 ≤ Int.tmod a b ∧ Int.tmod a b < b := ⟨Int.tmod_nonneg b h0, Int.tmod_lt_of_pos a hb⟩
theorem byte_ok {l : List Int} {a s : Int} {n : Nat} (h : Src l a s n) (hn : n ≤ 4611686018427387904) : ∃ r a' s', spec_l00Src_byte.f l a s = some (r, a', s') ∧ 0 ≤ r ∧ r ≤ 255 ∧ Src l a' s' (n + 1) := by
  obtain ⟨hb, hl, h0, h1, s0, s1⟩ := h
  unfold spec_l00Src_byte.f
  have w1 : wrap64 (a + 1) = a + 1 := wr (by omega) (by omega)
  have w2 : wrap64 (a + 1 - 1) = a := by rw [wr (by omega) (by omega)]; omega
  rw [w1, w2]
  by_cases hc : a + 1 ≤ (l.length : Int)
  · rw [if_pos hc, if_pos h0, if_pos (by omega)]
    have hm := hb _ (rd_mem h0 (show a < (l.length : Int) by omega))
    have w3 : wrap64 (rd l a) = rd l a := wr (by omega) (by omega)
    have w4 : wrap64 (s * 31) = s * 31 := wr (by omega) (by omega)
    have w5 : wrap64 (wrap64 (s * 31 + rd l a) + 7) = s * 31 + rd l a + 7 := by rw [wr (n := s * 31 + rd l a) (by omega) (by omega), wr (by omega) (by omega)]
    rw [w3, w4, w5]
    have t := tmod_pos (a := s * 31 + rd l a + 7) (b := 2147483648) (by omega) (by decide)
    exact ⟨_, _, _, rfl, hm.1, hm.2, hb, hl, by omega, by omega, t.1, t.2⟩
  · rw [if_neg hc]
    by_cases h3 : a + 1 > 3000
    · rw [if_pos h3]
      exact ⟨_, _, _, rfl, by omega, by omega, hb, hl, by omega, by omega, s0, s1⟩
    · rw [if_neg h3]
      have w4 : wrap64 (s * 1103515245) = s * 1103515245 := wr (by omega) (by omega)
      have w5 : wrap64 (s * 1103515245 + 12345) = s * 1103515245 + 12345 := wr (by omega) (by omega)
      rw [w4, w5]
      have t := tmod_pos (a := s * 1103515245 + 12345) (b := 2147483648) (by omega) (by decide)
      have q0 : 0 ≤ Int.tdiv (Int.tmod (s * 1103515245 + 12345) 2147483648) 65536 := Int.tdiv_nonneg t.1 (by decide)
      have q1 : Int.tdiv (Int.tmod (s * 1103515245 + 12345) 2147483648) 65536 ≤ 2147483648 := by
        have := Int.tdiv_le_self 65536 t.1
        omega
      rw [wr (n := Int.tdiv (Int.tmod (s * 1103515245 + 12345) 2147483648) 65536) (by omega) (by omega)]
      have u := tmod_pos (b := 256) q0 (by decide)
      exact ⟨_, _, _, rfl, u.1, by omega, hb, hl, by omega, by omega, t.1, t.2⟩
theorem next_ok {l : List Int} {a s : Int} {n : Nat} (h : Src l a s n) (hn : n ≤ 4611686018427387900) (m : Int) (hm : 1 ≤ m) : ∃ r a' s', spec_l00Src_next.f l a s m = some (r, a', s') ∧ 0 ≤ r ∧ r < m ∧ Src l a' s' (n + 3) := by
  unfold spec_l00Src_next.f
  by_cases h1 : m ≤ 1
  · rw [if_pos h1]; exact ⟨_, _, _, rfl, by omega, by omega, h.up (by omega)⟩
  · rw [if_neg h1]
    by_cases h2 : m ≤ 256
    · rw [if_pos h2]
      obtain ⟨r, a', s', e, r0, r1, h'⟩ := byte_ok h (by omega)
      rw [e]
      simp only [Option.bind_some]
      rw [if_neg (by omega)]
      have t := tmod_pos (a := r) (b := m) r0 (by omega)
      exact ⟨_, _, _, rfl, t.1, t.2, h'.up (by omega)⟩
    · rw [if_neg h2]
      obtain ⟨r, a', s', e, r0, r1, h'⟩ := byte_ok h (by omega)
      obtain ⟨q, b', t', f, q0, q1, h''⟩ := byte_ok h' (by omega)
      obtain ⟨u, c', v', g, u0, u1, h'''⟩ := byte_ok h'' (by omega)
      simp only [e, f, g, Option.bind_some]
      rw [if_neg (by omega)]
      have w1 : wrap64 (r * 65536) = r * 65536 := wr (by omega) (by omega)
      have w2 : wrap64 (q * 256) = q * 256 := wr (by omega) (by omega)
      have w3 : wrap64 (wrap64 (r * 65536 + q * 256) + u) = r * 65536 + q * 256 + u := by rw [wr (n := r * 65536 + q * 256) (by omega) (by omega), wr (by omega) (by omega)]
      rw [w1, w2, w3]
      have t := tmod_pos (a := r * 65536 + q * 256 + u) (b := m) (by omega) (by omega)
      exact ⟨_, _, _, rfl, t.1, t.2, h'''⟩
theorem chance_ok {l : List Int} {a s : Int} {n : Nat} (h : Src l a s n) (hn : n ≤ 4611686018427387900) (m : Int) (hm : 1 ≤ m) : ∃ r a' s', spec_l00Src_chance.f l a s m = some (r, a', s') ∧ Src l a' s' (n + 3) := by
  unfold spec_l00Src_chance.f
  obtain ⟨r, a', s', e, _, _, h'⟩ := next_ok h hn m hm
  rw [e]
  exact ⟨_, _, _, rfl, h'⟩
theorem bytes_of {l : List Int} (h : ∀ x ∈ l, (Lit.int .u8 x).wf = true) : ∀ x ∈ l, 0 ≤ x ∧ x ≤ 255 := fun x hx => wfu8 (h x hx)

theorem at_ok (l : List Int) (hb : ∀ x ∈ l, 0 ≤ x ∧ x ≤ 255) (hl : l.length ≤ 1048577) (i n : Int) (hi : 0 ≤ i) (hi2 : i ≤ 1000000000) (hn : 1 ≤ n) : ∃ r, laws_at.f l i n = some r ∧ 0 ≤ r ∧ r < n := by
  unfold laws_at.f
  by_cases h1 : n ≤ 1
  · rw [if_pos h1]; exact ⟨0, rfl, by omega, by omega⟩
  · rw [if_neg h1]
    by_cases h2 : (l.length : Int) = 0
    · rw [if_pos h2, if_neg (by omega), wr (by omega) (by omega)]
      have t := tmod_pos (a := i * 7) (b := n) (by omega) (by omega)
      exact ⟨_, rfl, t.1, t.2⟩
    · have w0 : wrap64 (i + 1) = i + 1 := wr (by omega) (by omega)
      rw [if_neg h2, w0]
      have t := tmod_pos (a := i) (b := (l.length : Int)) hi (by omega)
      have u := tmod_pos (a := i + 1) (b := (l.length : Int)) (by omega) (by omega)
      rw [if_pos t.1, if_pos t.2, if_pos u.1, if_pos u.2, if_neg (by omega)]
      have hx := hb _ (rd_mem t.1 t.2)
      have hy := hb _ (rd_mem u.1 u.2)
      have q0 : 0 ≤ Int.tdiv i (l.length : Int) := Int.tdiv_nonneg hi (by omega)
      have q1 : Int.tdiv i (l.length : Int) ≤ i := Int.tdiv_le_self _ hi
      have w1 : wrap64 (rd l (Int.tmod i (l.length : Int))) = rd l (Int.tmod i (l.length : Int)) := wr (by omega) (by omega)
      have w2 : wrap64 (rd l (Int.tmod (i + 1) (l.length : Int))) = rd l (Int.tmod (i + 1) (l.length : Int)) := wr (by omega) (by omega)
      have w3 : wrap64 (Int.tdiv i (l.length : Int)) = Int.tdiv i (l.length : Int) := wr (by omega) (by omega)
      rw [w1, w2, w3]
      have w4 : wrap64 (rd l (Int.tmod i (l.length : Int)) * 31) = rd l (Int.tmod i (l.length : Int)) * 31 := wr (by omega) (by omega)
      have w5 : wrap64 (rd l (Int.tmod i (l.length : Int)) * 31 + rd l (Int.tmod (i + 1) (l.length : Int))) = rd l (Int.tmod i (l.length : Int)) * 31 + rd l (Int.tmod (i + 1) (l.length : Int)) := wr (by omega) (by omega)
      rw [w4, w5, wr (by omega) (by omega)]
      have v := tmod_pos (a := rd l (Int.tmod i (l.length : Int)) * 31 + rd l (Int.tmod (i + 1) (l.length : Int)) + Int.tdiv i (l.length : Int)) (b := n) (by omega) (by omega)
      exact ⟨_, rfl, v.1, v.2⟩

theorem odd_ok {l : List Int} {a s : Int} {n : Nat} (h : Src l a s n) (hn : n ≤ 4611686018427387900) : ∃ r a' s', spec_l00Src_odd.f l a s = some (r, a', s') ∧ Src l a' s' (n + 3) := by
  unfold spec_l00Src_odd.f
  obtain ⟨r, a', s', e, r0, r1, h'⟩ := next_ok h hn 12 (by omega)
  simp only [Option.bind_some, e, List.length_cons, List.length_nil]
  rw [if_pos r0, if_pos (by omega)]
  exact ⟨_, _, _, rfl, h'⟩

def fitModel (a0 a1 a2 a3 : Int) : Int × Int × Int × Int :=
  if (0 ≤ a0 ∧ a0 ≤ 100000) ∧ (0 ≤ a1 ∧ a1 ≤ 100000) ∧ (0 ≤ a2 ∧ a2 ≤ 100000) ∧ (0 ≤ a3 ∧ a3 ≤ 100000) ∧ a0 ≤ a1 ∧ a2 ≤ a3 then
    (if 0 ≤ wrap64 (a0 - a3) then (1, wrap64 (a0 - a3), wrap64 (a1 - a2), 0) else if wrap64 (a1 - a2) ≤ 0 then (2, wrap64 (a0 - a3), wrap64 (a1 - a2), 0) else (3, wrap64 (a0 - a3), wrap64 (a1 - a2), 0))
  else (0, 0, 0, 1)
theorem size_f (a : Int) : spec_l07Size.f a = some (decide (0 ≤ a ∧ a ≤ 100000)) := by
  unfold spec_l07Size.f
  by_cases h : 0 ≤ a <;> simp [h]
theorem specFit (k : Nat) (a0 a1 a2 a3 : Int) : spec_FitKind.f (k + 8) a0 a1 a2 a3 = some (fitModel a0 a1 a2 a3) := by
  simp only [spec_FitKind.f, size_f, Option.bind_some, decide_eq_true_eq, spec_FitKind.j0, fitModel]
  grind (splits := 40)
theorem implFit (k : Nat) (a0 a1 a2 a3 : Int) : impl_FitKind.f (k + 8) a0 a1 a2 a3 = some (fitModel a0 a1 a2 a3) := by
  have w1 : wrap64 1 = 1 := by rw [wr] <;> decide
  have w2 : wrap64 2 = 2 := by rw [wr] <;> decide
  have w3 : wrap64 3 = 3 := by rw [wr] <;> decide
  have w4 : wrap64 4 = 4 := by rw [wr] <;> decide
  simp [impl_FitKind.f, impl_FitKind.l0, impl_FitKind.j1, fitModel, rd, w1, w2, w3, w4]
  grind (splits := 40)

theorem draw_ok (l : List Int) (hb : ∀ x ∈ l, 0 ≤ x ∧ x ≤ 255) (hl : l.length ≤ 1048577) : ∃ a b c d, spec_DrawFitKind.f l = some (a, b, c, d) := by
  unfold spec_DrawFitKind.f
  obtain ⟨s, e0, h0⟩ := src_new l hb hl
  obtain ⟨r1, a1, s1, e1, _, _, h1⟩ := next_ok h0 (by omega) 10 (by omega)
  obtain ⟨r2, a2, s2, e2, _, _, h2⟩ := next_ok h1 (by omega) 10 (by omega)
  obtain ⟨r3, a3, s3, e3, _, _, h3⟩ := next_ok h2 (by omega) 6 (by omega)
  obtain ⟨r4, a4, s4, e4, _, _, h4⟩ := next_ok h3 (by omega) 6 (by omega)
  obtain ⟨r5, a5, s5, e5, h5⟩ := chance_ok h4 (by omega) 9 (by omega)
  obtain ⟨r6, a6, s6, e6, g6, g6', h6⟩ := next_ok h5 (by omega) 4 (by omega)
  obtain ⟨r7, a7, s7, e7, h7⟩ := odd_ok h6 (by omega)
  obtain ⟨r8, a8, s8, e8, g8, g8', h8⟩ := next_ok h7 (by omega) 5 (by omega)
  simp only [e0, e1, e2, e3, e4, e5, e6, e7, e8, Option.bind_some, List.length_cons, List.length_nil]
  by_cases hc : r5 = true
  · rw [if_pos hc, if_pos g8, if_pos (by omega), if_pos g6, if_pos (by omega)]
    exact ⟨_, _, _, _, rfl⟩
  · rw [if_neg hc]
    exact ⟨_, _, _, _, rfl⟩
theorem FnKinds : laws_FnKinds.Plain := by
  intro l m hl hm
  refine Ev.rounds ?_
  have stop : Ev (fun k => laws_FnKinds.j0 k l m true) true := ev_some fun k => by simp only [laws_FnKinds.j0, if_true]
  unfold laws_FnKinds.f
  by_cases h1 : (l.length : Int) > 1048576
  · simp only [if_pos h1]; exact stop
  · simp only [if_neg h1]
    by_cases h2 : (m.length : Int) > 1048576
    · simp only [h2, decide_true]; exact stop
    · simp only [h2, decide_false]
      obtain ⟨a, b, c, d, e⟩ := draw_ok l (bytes_of hl.2) (by omega)
      refine ⟨12, fun k hk => ?_⟩
      obtain ⟨k, rfl⟩ : ∃ j, k = j + 10 := ⟨k - 10, by omega⟩
      simp only [laws_FnKinds.j0, e, Option.bind_some, Bool.false_eq_true, if_false]
      have i1 := implFit (k + 1) a b c d
      have s1 := specFit (k + 1) a b c d
      simp only [i1, s1, Option.bind_some, if_true]
      by_cases hok : (0 ≤ a ∧ a ≤ 100000) ∧ (0 ≤ b ∧ b ≤ 100000) ∧ (0 ≤ c ∧ c ≤ 100000) ∧ (0 ≤ d ∧ d ≤ 100000) ∧ a ≤ b ∧ c ≤ d
      · have w1 : wrap64 (a - d) = a - d := wr (by omega) (by omega)
        have w2 : wrap64 (b - c) = b - c := wr (by omega) (by omega)
        have w3 : wrap64 (wrap64 (b - a) + 1) = b - a + 1 := by rw [wr (n := b - a) (by omega) (by omega), wr (by omega) (by omega)]
        have w4 : wrap64 (wrap64 (d - c) + 1) = d - c + 1 := by rw [wr (n := d - c) (by omega) (by omega), wr (by omega) (by omega)]
        obtain ⟨x, ex, x0, x1⟩ := at_ok m (bytes_of hm.2) (by omega) 0 (b - a + 1) (by omega) (by omega) (by omega)
        obtain ⟨y, ey, y0, y1⟩ := at_ok m (bytes_of hm.2) (by omega) 1 (d - c + 1) (by omega) (by omega) (by omega)
        have w5 : wrap64 (wrap64 (wrap64 (a + x) - c) - y) = a + x - c - y := by
          rw [wr (n := a + x) (by omega) (by omega), wr (n := a + x - c) (by omega) (by omega), wr (by omega) (by omega)]
        have hM : fitModel a b c d = (if 0 ≤ a - d then 1 else if b - c ≤ 0 then 2 else 3, a - d, b - c, 0) := by
          unfold fitModel; rw [if_pos hok, w1, w2]; split
          · rfl
          · split <;> rfl
        simp only [hM, w1, w2, w3, w4, ex, ey, w5, Option.bind_some, if_true]
        rw [if_neg (by omega), if_neg (by omega)]
        simp only [bne_self_eq_false]
        obtain ⟨k, rfl⟩ | rfl : (∃ j, k = j + 1) ∨ k = 0 := by
          rcases Nat.eq_zero_or_pos k with h | h
          · exact .inr h
          · exact .inl ⟨k - 1, by omega⟩
        all_goals
          simp only [laws_FnKinds.j1, Bool.false_eq_true, if_false]
          grind (splits := 40)
      · have hM : fitModel a b c d = (0, 0, 0, 1) := by unfold fitModel; rw [if_neg hok]
        simp [hM]
end Go.Proofs.Ytbfjpolihoaafaa.Pure
