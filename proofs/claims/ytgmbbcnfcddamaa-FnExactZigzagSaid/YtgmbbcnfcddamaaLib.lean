/- Small lemmas on numbers, lists and printed loops, for the plain halves of this seat's proofs. -/
import Derived.Test.YtgmbbcnfcddamaaWWords
import Derived.Test.YtgmbbcnfcddamaaWMore
namespace Go.Proofs.Ytgmbbcnfcddamaa.Lib
open Go.RowKit Go.Proofs.YtgmbbcnfcddamaaW.PrintWords
set_option linter.unusedVariables false

theorem wr {n : Int} (h0 : -9223372036854775808 ≤ n) (h1 : n ≤ 9223372036854775807) : wrap64 n = n := by
  unfold wrap64
  omega
theorem wrap_lo (n : Int) : -9223372036854775808 ≤ wrap64 n := by unfold wrap64; omega
theorem wrap_hi (n : Int) : wrap64 n ≤ 9223372036854775807 := by unfold wrap64; omega
theorem wr_succ (i : Nat) (h : i < 9223372036854775807) : wrap64 ((i : Int) + 1) = ((i + 1 : Nat) : Int) := by
  rw [wr (by omega) (by omega)]; omega
theorem wf64 {x : Int} (h : (Lit.int .i64 x).wf = true) : -9223372036854775808 ≤ x ∧ x ≤ 9223372036854775807 := by
  simpa [Lit.wf, IntKind.min, IntKind.max, IntKind.signed, IntKind.bits] using h
theorem wfu8 {x : Int} (h : (Lit.int .u8 x).wf = true) : 0 ≤ x ∧ x ≤ 255 := by
  simpa [Lit.wf, IntKind.min, IntKind.max, IntKind.signed, IntKind.bits] using h
theorem rd_lt (xs : List Int) (i : Nat) (h : i < xs.length) : rd xs (i : Int) = xs[i] := by
  unfold rd; simp [h]
theorem rd_mem {xs : List Int} {i : Int} (h0 : 0 ≤ i) (h : i < (xs.length : Int)) : rd xs i ∈ xs := by
  unfold rd
  have : i.toNat < xs.length := by omega
  simp [this]

/-- Rounds, one after the other: where each comes to the next one's state, from some number of rounds on. -/
theorem ev_run {ρ : Type} {r : ρ} (G : Nat → Nat → Option ρ) (n : Nat) (step : ∀ i, i < n → ∃ K, ∀ k, K ≤ k → G i (k + 1) = G (i + 1) k) (h : Ev (G n) r) : Ev (G 0) r := by
  have key : ∀ m, m ≤ n → Ev (G (n - m)) r := by
    intro m
    induction m with
    | zero => intro _; exact h
    | succ m ih =>
      intro hm
      obtain ⟨K, hK⟩ := ih (by omega)
      obtain ⟨K', hK'⟩ := step (n - (m + 1)) (by omega)
      refine ⟨max K K' + 1, fun k hk => ?_⟩
      obtain ⟨j, rfl⟩ : ∃ j, k = j + 1 := ⟨k - 1, by omega⟩
      rw [hK' j (by omega), show n - (m + 1) + 1 = n - m by omega]
      exact hK j (by omega)
  have := key n (Nat.le_refl _)
  rwa [Nat.sub_self] at this
/-- .. each round at once. -/
theorem ev_run0 {ρ : Type} {r : ρ} (G : Nat → Nat → Option ρ) (n : Nat) (step : ∀ i, i < n → ∀ k, G i (k + 1) = G (i + 1) k) (h : Ev (G n) r) : Ev (G 0) r :=
  ev_run G n (fun i hi => ⟨0, fun k _ => step i hi k⟩) h
theorem ev_some {ρ : Type} {r : ρ} {g : Nat → Option ρ} (h : ∀ k, g (k + 1) = some r) : Ev g r :=
  ⟨1, fun k hk => by obtain ⟨j, rfl⟩ : ∃ j, k = j + 1 := ⟨k - 1, by omega⟩; exact h j⟩
theorem ev_one {ρ : Type} {r : ρ} {g f : Nat → Option ρ} (h : ∀ k, g (k + 1) = f k) (k : Ev f r) : Ev g r := Ev.step h k
theorem ev_const {ρ : Type} {r : ρ} {x : Option ρ} (h : x = some r) : Ev (fun _ => x) r := ⟨0, fun _ _ => h⟩
/-- What is so from some number of rounds on, of two, is so of both. -/
theorem ev_and {P Q : Nat → Prop} (h : ∃ K, ∀ k, K ≤ k → P k) (h' : ∃ K, ∀ k, K ≤ k → Q k) : ∃ K, ∀ k, K ≤ k → P k ∧ Q k := by
  obtain ⟨K, h⟩ := h
  obtain ⟨K', h'⟩ := h'
  exact ⟨max K K', fun k hk => ⟨h k (by omega), h' k (by omega)⟩⟩

/-- A loop that copies a list into another one of its length, element by element. -/
theorem copy_loop {α β : Type} (l0 : Nat → List α → List β → Int → Option (List β)) (conv : α → β) (da : α)
    (step : ∀ k x0 x3 (i : Nat), i < x0.length → i < x3.length → l0 (k + 1) x0 x3 (i : Int) = l0 k x0 (x3.set i (conv (x0.getD i da))) (wrap64 ((i : Int) + 1)))
    (stop : ∀ k x0 x3, l0 (k + 1) x0 x3 (x0.length : Int) = some x3)
    (x0 : List α) (hx : x0.length ≤ 9223372036854775806) (z : List β) (hz : z.length = x0.length) : Ev (fun k => l0 k x0 z 0) (x0.map conv) := by
  have h := ev_run0 (r := x0.map conv) (fun i k => l0 k x0 ((x0.take i).map conv ++ z.drop i) (i : Int)) x0.length (fun i hi k => by
    show l0 (k + 1) x0 _ (i : Int) = l0 k x0 _ ((i + 1 : Nat) : Int)
    have hl : ((x0.take i).map conv).length = i := by simp; omega
    have hd : z.drop i = z[i]'(by omega) :: z.drop (i + 1) := List.drop_eq_getElem_cons (by omega)
    rw [step k x0 _ i hi (by simp; omega), wr_succ i (by omega)]
    congr 1
    have e : x0.getD i da = x0[i] := by simp [List.getD, hi]
    rw [hd, List.set_append_right _ _ (by omega), hl, Nat.sub_self, List.set_cons_zero, List.take_succ_eq_append_getElem hi, e, List.map_append, List.append_assoc]
    rfl) (ev_some (fun k => by
    show l0 (k + 1) x0 _ (x0.length : Int) = _
    rw [stop]; simp [hz]))
  simpa using h
/-- A loop that finds a list equal to itself. -/
theorem same_loop {α : Type} (l0 : Nat → List α → List α → Int → Option Bool) (x : List α)
    (step : ∀ k (i : Nat), i < x.length → l0 (k + 1) x x (i : Int) = l0 k x x (wrap64 ((i : Int) + 1)))
    (stop : ∀ k, l0 (k + 1) x x (x.length : Int) = some true)
    (hx : x.length ≤ 9223372036854775806) : Ev (fun k => l0 k x x 0) true := by
  have h := ev_run0 (r := true) (fun i k => l0 k x x (i : Int)) x.length (fun i hi k => by
    show l0 (k + 1) x x (i : Int) = l0 k x x ((i + 1 : Nat) : Int)
    rw [step k i hi, wr_succ i (by omega)]) (ev_some stop)
  simpa using h
/-- A loop that looks at each index, and stops at the first that isn't right. -/
theorem all_loop {ρ : Type} {r bad : ρ} (G : Nat → Nat → Option ρ) (n : Nat) (p : Nat → Bool)
    (go : ∀ i, i < n → p i = true → ∃ K, ∀ k, K ≤ k → G i (k + 1) = G (i + 1) k)
    (no : ∀ i, i < n → p i = false → Ev (G i) bad)
    (fin : (∀ i, i < n → p i = true) → Ev (G n) r) : Ev (G 0) (if ∀ i, i < n → p i = true then r else bad) := by
  by_cases h : ∀ i, i < n → p i = true
  · rw [if_pos h]
    exact ev_run G n (fun i hi => go i hi (h i hi)) (fin h)
  · rw [if_neg h]
    have hex : ∃ m, m < n ∧ p m = false ∧ ∀ i, i < m → p i = true := by
      clear go no fin
      induction n with
      | zero => exact absurd (fun i hi => by omega) h
      | succ n ih =>
        by_cases h' : ∀ i, i < n → p i = true
        · refine ⟨n, by omega, ?_, h'⟩
          cases hp : p n with
          | false => rfl
          | true =>
            exfalso
            refine h fun i hi => ?_
            rcases Nat.lt_or_ge i n with hl | hl
            · exact h' i hl
            · obtain rfl : i = n := by omega
              exact hp
        · obtain ⟨m, hm, hp, hall⟩ := ih h'
          exact ⟨m, by omega, hp, hall⟩
    obtain ⟨m, hm, hp, hall⟩ := hex
    exact ev_run G m (fun i hi => go i (by omega) (hall i hi)) (no m hm hp)
/-- Rounds, one after the other, each by what is told of the next one. -/
theorem ev_steps {ρ : Type} {r : ρ} (G : Nat → Nat → Option ρ) (n : Nat) (step : ∀ i, i < n → Ev (G (i + 1)) r → Ev (G i) r) (h : Ev (G n) r) : Ev (G 0) r := by
  have key : ∀ m, m ≤ n → Ev (G (n - m)) r := by
    intro m
    induction m with
    | zero => intro _; exact h
    | succ m ih =>
      intro hm
      have := step (n - (m + 1)) (by omega)
      rw [show n - (m + 1) + 1 = n - m by omega] at this
      exact this (ih (by omega))
  have := key n (Nat.le_refl _)
  rwa [Nat.sub_self] at this
theorem all_steps {ρ : Type} {r bad : ρ} (G : Nat → Nat → Option ρ) (n : Nat) (p : Nat → Bool)
    (go : ∀ i, i < n → p i = true → ∀ q, Ev (G (i + 1)) q → Ev (G i) q)
    (no : ∀ i, i < n → p i = false → Ev (G i) bad)
    (fin : (∀ i, i < n → p i = true) → Ev (G n) r) : Ev (G 0) (if ∀ i, i < n → p i = true then r else bad) := by
  by_cases h : ∀ i, i < n → p i = true
  · rw [if_pos h]
    exact ev_steps G n (fun i hi => go i hi (h i hi) r) (fin h)
  · rw [if_neg h]
    have hex : ∃ m, m < n ∧ p m = false ∧ ∀ i, i < m → p i = true := by
      clear go no fin
      induction n with
      | zero => exact absurd (fun i hi => by omega) h
      | succ n ih =>
        by_cases h' : ∀ i, i < n → p i = true
        · refine ⟨n, by omega, ?_, h'⟩
          cases hp : p n with
          | false => rfl
          | true =>
            exfalso
            refine h fun i hi => ?_
            rcases Nat.lt_or_ge i n with hl | hl
            · exact h' i hl
            · obtain rfl : i = n := by omega
              exact hp
        · obtain ⟨m, hm, hp, hall⟩ := ih h'
          exact ⟨m, by omega, hp, hall⟩
    obtain ⟨m, hm, hp, hall⟩ := hex
    exact ev_steps G m (fun i hi => go i (by omega) (hall i hi) bad) (no m hm hp)
theorem mx_eq (a b : Int) : mx a b = max a b := by unfold mx; split <;> omega
theorem mn_eq (a b : Int) : mn a b = min a b := by unfold mn; split <;> omega
end Go.Proofs.Ytgmbbcnfcddamaa.Lib
