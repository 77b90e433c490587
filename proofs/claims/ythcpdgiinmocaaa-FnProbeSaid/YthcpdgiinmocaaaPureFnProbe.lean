/- FnProbe over numbers and lists alone: the program's way by the drawn points goes to the nearest that is left, each once, and is as long as it says; its judgement of a drawn size is what the size says. -/
import Derived.Test.YthcpdgiinmocaaaSFnProbe
import Derived.Test.YthcpdgiinmocaaaLib
namespace Go.Proofs.Ythcpdgiinmocaaa.Pure
open Go.RowKit Go.Proofs.Ythcpdgiinmocaaa.PFnProbe Go.Proofs.YthcpdgiinmocaaaW.PrintWords Go.Proofs.YthcpdgiinmocaaaW.PrintLast Go.Proofs.Ythcpdgiinmocaaa.Lib
set_option linter.unusedVariables false
set_option linter.unusedSimpArgs false

/-- What a source of choices is, after at most so many bytes. -/
structure Src (l : List Int) (a s : Int) (n : Nat) : Prop where
  bytes : ∀ x ∈ l, 0 ≤ x ∧ x ≤ 255
  len : l.length ≤ 1048577
  lo : 0 ≤ a
  hi : a ≤ n
  sl : 0 ≤ s
  sh : s < 2147483648
theorem Src.up {l : List Int} {a s : Int} {n m : Nat} (h : Src l a s n) (hm : n ≤ m) : Src l a s m := ⟨h.bytes, h.len, h.lo, by have := h.hi; omega, h.sl, h.sh⟩
theorem src_new (l : List Int) (hb : ∀ x ∈ l, 0 ≤ x ∧ x ≤ 255) (hl : l.length ≤ 1048577) : ∃ s, spec_l00Source.f l = some (l, 0, s) ∧ Src l 0 s 0 :=
  ⟨_, rfl, ⟨hb, hl, by omega, by omega, by omega, by omega⟩⟩
theorem tmod_pos {a b : Int} (h0 : 0 ≤ a) (hb : 0 < b) : 0 ≤ Int.tmod a b ∧ Int.tmod a b < b := ⟨Int.tmod_nonneg b h0, Int.tmod_lt_of_pos a hb⟩
theorem byte_ok {l : List Int} {a s : Int} {n : Nat} (h : Src l a s n) (hn : n ≤ 4611686018427387904) : ∃ r a' s', spec_l00Src_byte.f l a s = some (r, a', s') ∧ 0 ≤ r ∧ r ≤ 255 ∧ Src l a' s' (n + 1) := by
  obtain ⟨hb, hl, h0, h1, s0, s1⟩ := h
  unfold spec_l00Src_byte.f
  have w1 : wrap64 (a + 1) = a + 1 := wr (by omega) (by omega)
  have w2 : wrap64 (a + 1 - 1) = a := by rw [wr (by omega) (by omega)]; omega
  rw [w1, w2]
  by_cases hc : a + 1 ≤ (l.length : Int)
  · rw [if_pos hc, if_pos h0, if_pos (by omega)]
    have hm := hb _ (rd_mem h0 (show a < (l.length : Int) by omega))
    have w3 : wrap64 (rd l a) = rd l a := wr (by omega) (by omega)
    have w4 : wrap64 (s * 31) = s * 31 := wr (by omega) (by omega)
    have w5 : wrap64 (wrap64 (s * 31 + rd l a) + 7) = s * 31 + rd l a + 7 := by rw [wr (n := s * 31 + rd l a) (by omega) (by omega), wr (by omega) (by omega)]
    rw [w3, w4, w5]
    have t := tmod_pos (a := s * 31 + rd l a + 7) (b := 2147483648) (by omega) (by decide)
    exact ⟨_, _, _, rfl, hm.1, hm.2, hb, hl, by omega, by omega, t.1, t.2⟩
  · rw [if_neg hc]
    by_cases h3 : a + 1 > 3000
    · rw [if_pos h3]
      exact ⟨_, _, _, rfl, by omega, by omega, hb, hl, by omega, by omega, s0, s1⟩
    · rw [if_neg h3]
      have w4 : wrap64 (s * 1103515245) = s * 1103515245 := wr (by omega) (by omega)
      have w5 : wrap64 (s * 1103515245 + 12345) = s * 1103515245 + 12345 := wr (by omega) (by omega)
      rw [w4, w5]
      have t := tmod_pos (a := s * 1103515245 + 12345) (b := 2147483648) (by omega) (by decide)
      have q0 : 0 ≤ Int.tdiv (Int.tmod (s * 1103515245 + 12345) 2147483648) 65536 := Int.tdiv_nonneg t.1 (by decide)
      have q1 : Int.tdiv (Int.tmod (s * 1103515245 + 12345) 2147483648) 65536 ≤ 2147483648 := by
        have := Int.tdiv_le_self 65536 t.1
        omega
      rw [wr (n := Int.tdiv (Int.tmod (s * 1103515245 + 12345) 2147483648) 65536) (by omega) (by omega)]
      have u := tmod_pos (b := 256) q0 (by decide)
      exact ⟨_, _, _, rfl, u.1, by omega, hb, hl, by omega, by omega, t.1, t.2⟩
theorem next_ok {l : List Int} {a s : Int} {n : Nat} (h : Src l a s n) (hn : n ≤ 4611686018427387900) (m : Int) (hm : 1 ≤ m) : ∃ r a' s', spec_l00Src_next.f l a s m = some (r, a', s') ∧ 0 ≤ r ∧ r < m ∧ Src l a' s' (n + 3) := by
  unfold spec_l00Src_next.f
  by_cases h1 : m ≤ 1
  · rw [if_pos h1]; exact ⟨_, _, _, rfl, by omega, by omega, h.up (by omega)⟩
  · rw [if_neg h1]
    by_cases h2 : m ≤ 256
    · rw [if_pos h2]
      obtain ⟨r, a', s', e, r0, r1, h'⟩ := byte_ok h (by omega)
      rw [e]
      simp only [Option.bind_some]
      rw [if_neg (by omega)]
      have t := tmod_pos (a := r) (b := m) r0 (by omega)
      exact ⟨_, _, _, rfl, t.1, t.2, h'.up (by omega)⟩
    · rw [if_neg h2]
      obtain ⟨r, a', s', e, r0, r1, h'⟩ := byte_ok h (by omega)
      obtain ⟨q, b', t', f, q0, q1, h''⟩ := byte_ok h' (by omega)
      obtain ⟨u, c', v', g, u0, u1, h'''⟩ := byte_ok h'' (by omega)
      simp only [e, f, g, Option.bind_some]
      rw [if_neg (by omega)]
      have w1 : wrap64 (r * 65536) = r * 65536 := wr (by omega) (by omega)
      have w2 : wrap64 (q * 256) = q * 256 := wr (by omega) (by omega)
      have w3 : wrap64 (wrap64 (r * 65536 + q * 256) + u) = r * 65536 + q * 256 + u := by rw [wr (n := r * 65536 + q * 256) (by omega) (by omega), wr (by omega) (by omega)]
      rw [w1, w2, w3]
      have t := tmod_pos (a := r * 65536 + q * 256 + u) (b := m) (by omega) (by omega)
      exact ⟨_, _, _, rfl, t.1, t.2, h'''⟩
theorem chance_ok {l : List Int} {a s : Int} {n : Nat} (h : Src l a s n) (hn : n ≤ 4611686018427387900) (m : Int) (hm : 1 ≤ m) : ∃ r a' s', spec_l00Src_chance.f l a s m = some (r, a', s') ∧ Src l a' s' (n + 3) := by
  unfold spec_l00Src_chance.f
  obtain ⟨r, a', s', e, _, _, h'⟩ := next_ok h hn m hm
  rw [e]
  exact ⟨_, _, _, rfl, h'⟩
theorem bytes_of {l : List Int} (h : ∀ x ∈ l, (Lit.int .u8 x).wf = true) : ∀ x ∈ l, 0 ≤ x ∧ x ≤ 255 := fun x hx => wfu8 (h x hx)

theorem at_ok (l : List Int) (hb : ∀ x ∈ l, 0 ≤ x ∧ x ≤ 255) (hl : l.length ≤ 1048577) (i n : Int) (hi : 0 ≤ i) (hi2 : i ≤ 1000000000) (hn : 1 ≤ n) : ∃ r, laws_at.f l i n = some r ∧ 0 ≤ r ∧ r < n := by
  unfold laws_at.f
  by_cases h1 : n ≤ 1
  · rw [if_pos h1]; exact ⟨0, rfl, by omega, by omega⟩
  · rw [if_neg h1]
    by_cases h2 : (l.length : Int) = 0
    · rw [if_pos h2, if_neg (by omega), wr (by omega) (by omega)]
      have t := tmod_pos (a := i * 7) (b := n) (by omega) (by omega)
      exact ⟨_, rfl, t.1, t.2⟩
    · have w0 : wrap64 (i + 1) = i + 1 := wr (by omega) (by omega)
      rw [if_neg h2, w0]
      have t := tmod_pos (a := i) (b := (l.length : Int)) hi (by omega)
      have u := tmod_pos (a := i + 1) (b := (l.length : Int)) (by omega) (by omega)
      rw [if_pos t.1, if_pos t.2, if_pos u.1, if_pos u.2, if_neg (by omega)]
      have hx := hb _ (rd_mem t.1 t.2)
      have hy := hb _ (rd_mem u.1 u.2)
      have q0 : 0 ≤ Int.tdiv i (l.length : Int) := Int.tdiv_nonneg hi (by omega)
      have q1 : Int.tdiv i (l.length : Int) ≤ i := Int.tdiv_le_self _ hi
      have w1 : wrap64 (rd l (Int.tmod i (l.length : Int))) = rd l (Int.tmod i (l.length : Int)) := wr (by omega) (by omega)
      have w2 : wrap64 (rd l (Int.tmod (i + 1) (l.length : Int))) = rd l (Int.tmod (i + 1) (l.length : Int)) := wr (by omega) (by omega)
      have w3 : wrap64 (Int.tdiv i (l.length : Int)) = Int.tdiv i (l.length : Int) := wr (by omega) (by omega)
      rw [w1, w2, w3]
      have w4 : wrap64 (rd l (Int.tmod i (l.length : Int)) * 31) = rd l (Int.tmod i (l.length : Int)) * 31 := wr (by omega) (by omega)
      have w5 : wrap64 (rd l (Int.tmod i (l.length : Int)) * 31 + rd l (Int.tmod (i + 1) (l.length : Int))) = rd l (Int.tmod i (l.length : Int)) * 31 + rd l (Int.tmod (i + 1) (l.length : Int)) := wr (by omega) (by omega)
      rw [w4, w5, wr (by omega) (by omega)]
      have v := tmod_pos (a := rd l (Int.tmod i (l.length : Int)) * 31 + rd l (Int.tmod (i + 1) (l.length : Int)) + Int.tdiv i (l.length : Int)) (b := n) (by omega) (by omega)
      exact ⟨_, rfl, v.1, v.2⟩

theorem odd_ok {l : List Int} {a s : Int} {n : Nat} (h : Src l a s n) (hn : n ≤ 4611686018427387900) : ∃ r a' s', spec_l00Src_odd.f l a s = some (r, a', s') ∧ Src l a' s' (n + 3) := by
  unfold spec_l00Src_odd.f
  obtain ⟨r, a', s', e, r0, r1, h'⟩ := next_ok h hn 12 (by omega)
  simp only [Option.bind_some, e, List.length_cons, List.length_nil]
  rw [if_pos r0, if_pos (by omega)]
  exact ⟨_, _, _, rfl, h'⟩

def ptOK (x y : Int) : Bool := decide (-100000 ≤ x ∧ x ≤ 100000 ∧ -100000 ≤ y ∧ y ≤ 100000)
theorem spec_pt (x y : Int) : spec_l03Point.f x y = some (ptOK x y) := by
  unfold spec_l03Point.f ptOK
  by_cases h1 : x ≥ -100000
  · rw [if_pos h1]
    by_cases h2 : x ≤ 100000
    · rw [if_pos h2]
      by_cases h3 : y ≥ -100000
      · rw [if_pos h3]; congr 1; rw [Bool.eq_iff_iff, decide_eq_true_eq, decide_eq_true_eq]; omega
      · rw [if_neg h3, decide_eq_false (by omega)]
    · rw [if_neg h2, decide_eq_false (by omega)]
  · rw [if_neg h1, decide_eq_false (by omega)]
theorem impl_pt (x y : Int) : impl_pointOK.f x y = some (ptOK x y) := spec_pt x y
def ptsOK (L : List S45) : Prop := ∀ i, i < L.length → ptOK (rd_T45 L (i : Int)).f0 (rd_T45 L (i : Int)).f1 = true
instance (L : List S45) : Decidable (ptsOK L) := by unfold ptsOK; exact inferInstance
theorem spec_pts (L : List S45) (h : L.length ≤ 1048576) : Ev (fun k => spec_l03Points.f k L) (decide (ptsOK L)) := by
  have key := all_loop (r := true) (bad := false) (fun i k => spec_l03Points.l0 k L (i : Int)) L.length (fun i => ptOK (rd_T45 L (i : Int)).f0 (rd_T45 L (i : Int)).f1)
    (fun i hi hp => ⟨0, fun k _ => by
      show spec_l03Points.l0 (k + 1) L (i : Int) = spec_l03Points.l0 k L ((i + 1 : Nat) : Int)
      simp only [spec_l03Points.l0, spec_pt, hp, Option.bind_some, if_true]
      rw [if_pos (by omega), if_pos (by omega), wr_succ i (by omega)]⟩)
    (fun i hi hp => ev_some fun k => by
      show spec_l03Points.l0 (k + 1) L (i : Int) = _
      simp only [spec_l03Points.l0, spec_pt, hp, Option.bind_some, Bool.false_eq_true, if_false]
      rw [if_pos (by omega), if_pos (by omega)])
    (fun _ => ev_some fun k => by
      show spec_l03Points.l0 (k + 1) L (L.length : Int) = _
      simp only [spec_l03Points.l0]; rw [if_neg (by omega)])
  have e : decide (ptsOK L) = if ptsOK L then true else false := by by_cases hc : ptsOK L <;> simp [hc]
  rw [e]; exact key

def dst (L : List S45) (x y : Int) (i : Nat) : Int := (((rd_T45 L (i : Int)).f0 - x).natAbs : Int) + (((rd_T45 L (i : Int)).f1 - y).natAbs : Int)
def scan (L : List S45) (v : List Bool) (x y : Int) : Nat → Int × Int
  | 0 => (-1, 0)
  | i + 1 => if rdOf false v (i : Int) = true then scan L v x y i else if (scan L v x y i).1 < 0 then ((i : Int), dst L x y i) else if dst L x y i < (scan L v x y i).2 then ((i : Int), dst L x y i) else scan L v x y i
theorem dst_ok {L : List S45} (hL : ptsOK L) {x y : Int} (hp : ptOK x y = true) (i : Nat) (hi : i < L.length) : 0 ≤ dst L x y i ∧ dst L x y i ≤ 400000 := by
  have a := of_decide_eq_true (hL i hi)
  have b := of_decide_eq_true hp
  unfold dst; omega
theorem abs1 (x : Int) (h0 : -1000000 ≤ x) (h1 : x ≤ 1000000) : spec_l01Abs.f x = some (x.natAbs : Int) := by
  unfold spec_l01Abs.f
  by_cases h : x < 0
  · rw [if_pos h, wr (by omega) (by omega)]; congr 1; omega
  · rw [if_neg h]; congr 1; omega
theorem abs2 (x : Int) (h0 : -1000000 ≤ x) (h1 : x ≤ 1000000) : impl_abs.f x = some (x.natAbs : Int) := by
  unfold impl_abs.f
  rw [wr (by omega) (by omega), mx_eq]; congr 1; omega
theorem scan_ok {L : List S45} (hL : ptsOK L) (v : List Bool) {x y : Int} (hp : ptOK x y = true) : ∀ i, i ≤ L.length →
    (0 ≤ (scan L v x y i).2 ∧ (scan L v x y i).2 ≤ 400000) ∧ (((scan L v x y i).1 = -1 ∧ ∀ k, k < i → rdOf false v (k : Int) = true) ∨ (0 ≤ (scan L v x y i).1 ∧ (scan L v x y i).1 < (i : Int))) := by
  intro i
  induction i with
  | zero => intro _; exact ⟨by simp [scan], .inl ⟨rfl, fun k hk => by omega⟩⟩
  | succ i ih =>
    intro hi
    obtain ⟨a, b⟩ := ih (by omega)
    have d := dst_ok hL hp i (by omega)
    unfold scan
    by_cases h1 : rdOf false v (i : Int) = true
    · simp only [if_pos h1]
      refine ⟨a, ?_⟩
      rcases b with ⟨b1, b2⟩ | b
      · refine .inl ⟨b1, fun k hk => ?_⟩
        rcases Nat.lt_or_ge k i with h | h
        · exact b2 k h
        · obtain rfl : k = i := by omega
          exact h1
      · exact .inr ⟨by omega, by omega⟩
    · simp only [if_neg h1]
      by_cases h2 : (scan L v x y i).1 < 0
      · simp only [if_pos h2]; exact ⟨d, .inr ⟨by omega, by omega⟩⟩
      · simp only [if_neg h2]
        by_cases h3 : dst L x y i < (scan L v x y i).2
        · simp only [if_pos h3]; exact ⟨d, .inr ⟨by omega, by omega⟩⟩
        · simp only [if_neg h3]
          refine ⟨a, .inr ?_⟩
          rcases b with ⟨b1, b2⟩ | b
          · omega
          · omega
structure St where
  v : List Bool
  out : List Int
  len : Int
  x : Int
  y : Int
def tour (L : List S45) (x y : Int) : Nat → St
  | 0 => ⟨List.replicate L.length false, [], 0, x, y⟩
  | j + 1 =>
    let s := tour L x y j
    let b := scan L s.v s.x s.y L.length
    ⟨s.v.set b.1.toNat true, s.out ++ [b.1], s.len + b.2, (rd_T45 L b.1).f0, (rd_T45 L b.1).f1⟩
structure Good (L : List S45) (j : Nat) (s : St) : Prop where
  vl : s.v.length = L.length
  cnt : s.v.count true ≤ j
  ol : s.out.length = j
  l0 : 0 ≤ s.len
  l1 : s.len ≤ j * 400000
  pt : ptOK s.x s.y = true
theorem good_scan {L : List S45} (hL : ptsOK L) {j : Nat} {s : St} (h : Good L j s) (hj : j < L.length) : 0 ≤ (scan L s.v s.x s.y L.length).1 ∧ (scan L s.v s.x s.y L.length).1 < (L.length : Int) := by
  obtain ⟨_, b⟩ := scan_ok hL s.v h.pt L.length (Nat.le_refl _)
  rcases b with ⟨b1, b2⟩ | b
  · exfalso
    have hall : s.v.count true = s.v.length := by
      rw [List.count_eq_length]
      intro b hb
      obtain ⟨k, hk, rfl⟩ := List.mem_iff_getElem.1 hb
      have := b2 k (by have := h.vl; omega)
      simpa [rdOf, hk] using this.symm
    have := h.vl; have := h.cnt; omega
  · exact b
theorem good_tour {L : List S45} (hL : ptsOK L) {x y : Int} (hp : ptOK x y = true) : ∀ j, j ≤ L.length → Good L j (tour L x y j) := by
  intro j
  induction j with
  | zero => intro _; exact ⟨by simp [tour], by simp [tour, List.count_replicate], rfl, by simp [tour], by simp [tour], hp⟩
  | succ j ih =>
    intro hj
    have g := ih (by omega)
    have b := good_scan hL g (by omega)
    obtain ⟨d, _⟩ := scan_ok hL (tour L x y j).v g.pt L.length (Nat.le_refl _)
    have hlt : (scan L (tour L x y j).v (tour L x y j).x (tour L x y j).y L.length).1.toNat < (tour L x y j).v.length := by have := g.vl; omega
    refine ⟨by simp [tour, g.vl], ?_, by simp [tour, g.ol], ?_, ?_, ?_⟩
    · simp only [tour]
      rw [List.count_set hlt]
      have := g.cnt
      split <;> split <;> omega
    · simp only [tour]; have := g.l0; omega
    · simp only [tour]; have := g.l1; omega
    · simp only [tour]
      have := hL (scan L (tour L x y j).v (tour L x y j).x (tour L x y j).y L.length).1.toNat (by omega)
      rwa [Int.toNat_of_nonneg b.1] at this
def probM (L : List S45) (x y : Int) : List Int × Int × Int :=
  if (L.length : Int) > 4096 then ([], 0, 2) else if L.length ≤ 200 ∧ ptsOK L ∧ ptOK x y = true then ((tour L x y L.length).out, (tour L x y L.length).len, 0) else ([], 0, 1)

theorem spec_round {L : List S45} (hL : ptsOK L) (hn : L.length ≤ 200) {j : Nat} {s : St} (g : Good L j s) (hj : j < L.length) {r : List Int × Int × Int}
    (h : Ev (fun k => spec_Probing.l0 k L (s.v.set (scan L s.v s.x s.y L.length).1.toNat true) (s.out ++ [(scan L s.v s.x s.y L.length).1]) (s.len + (scan L s.v s.x s.y L.length).2) (L.length : Int) ((j + 1 : Nat) : Int) (rd_T45 L (scan L s.v s.x s.y L.length).1).f0 (rd_T45 L (scan L s.v s.x s.y L.length).1).f1) r) :
    Ev (fun k => spec_Probing.l0 k L s.v s.out s.len (L.length : Int) (j : Int) s.x s.y) r := by
  have b := good_scan hL g hj
  obtain ⟨d, _⟩ := scan_ok hL s.v g.pt L.length (Nat.le_refl _)
  have gv := g.vl; have go := g.ol; have gl := g.l0; have gm := g.l1; have gp := of_decide_eq_true g.pt
  refine ev_one (f := fun k => spec_Probing.l1 k L s.v s.out s.len (-1) 0 0 (L.length : Int) (j : Int) s.x s.y) (fun k => by simp only [spec_Probing.l0]; rw [if_pos (by omega)]) ?_
  have := ev_run0 (r := r) (fun i k => spec_Probing.l1 k L s.v s.out s.len (scan L s.v s.x s.y i).1 (scan L s.v s.x s.y i).2 (i : Int) (L.length : Int) (j : Int) s.x s.y) L.length (fun i hi k => by
    show spec_Probing.l1 (k + 1) L s.v s.out s.len (scan L s.v s.x s.y i).1 (scan L s.v s.x s.y i).2 (i : Int) (L.length : Int) (j : Int) s.x s.y = spec_Probing.l1 k L s.v s.out s.len (scan L s.v s.x s.y (i + 1)).1 (scan L s.v s.x s.y (i + 1)).2 ((i + 1 : Nat) : Int) (L.length : Int) (j : Int) s.x s.y
    have q := of_decide_eq_true (hL i hi)
    have dd := dst_ok hL g.pt i hi
    have hd : wrap64 ((((rd_T45 L (i : Int)).f0 - s.x).natAbs : Int) + (((rd_T45 L (i : Int)).f1 - s.y).natAbs : Int)) = dst L s.x s.y i := by unfold dst at *; exact wr (by omega) (by omega)
    simp only [spec_Probing.l1]
    rw [if_pos (by omega), if_pos (by omega), wr (n := (rd_T45 L (i : Int)).f0 - s.x) (by omega) (by omega), wr (n := (rd_T45 L (i : Int)).f1 - s.y) (by omega) (by omega), abs1 _ (by omega) (by omega), abs1 _ (by omega) (by omega)]
    simp only [Option.bind_some, hd, wr_succ i (show i < 9223372036854775807 by omega)]
    rw [if_pos (by omega)]
    rw [scan]
    split
    · rfl
    · split
      · rfl
      · split <;> rfl) (ev_one (f := fun k => spec_Probing.l0 k L (s.v.set (scan L s.v s.x s.y L.length).1.toNat true) (s.out ++ [(scan L s.v s.x s.y L.length).1]) (s.len + (scan L s.v s.x s.y L.length).2) (L.length : Int) ((j + 1 : Nat) : Int) (rd_T45 L (scan L s.v s.x s.y L.length).1).f0 (rd_T45 L (scan L s.v s.x s.y L.length).1).f1) (fun k => by
    show spec_Probing.l1 (k + 1) L s.v s.out s.len (scan L s.v s.x s.y L.length).1 (scan L s.v s.x s.y L.length).2 (L.length : Int) (L.length : Int) (j : Int) s.x s.y = _
    simp only [spec_Probing.l1]
    rw [if_neg (by omega), if_pos (by omega), if_pos (by omega), if_pos (by omega), if_pos (by omega), wr (n := s.len + (scan L s.v s.x s.y L.length).2) (by omega) (by omega), wr_succ j (by omega)]) h)
  exact this
theorem spec_tour {L : List S45} (hL : ptsOK L) (hn : L.length ≤ 200) {x y : Int} (hp : ptOK x y = true) :
    Ev (fun k => spec_Probing.l0 k L (List.replicate L.length false) [] 0 (L.length : Int) 0 x y) ((tour L x y L.length).out, (tour L x y L.length).len, 0) := by
  have := ev_steps (r := ((tour L x y L.length).out, (tour L x y L.length).len, (0 : Int))) (fun j k => spec_Probing.l0 k L (tour L x y j).v (tour L x y j).out (tour L x y j).len (L.length : Int) (j : Int) (tour L x y j).x (tour L x y j).y) L.length
    (fun j hj h => spec_round hL hn (good_tour hL hp j (by omega)) hj h)
    (ev_some fun k => by
      show spec_Probing.l0 (k + 1) L _ _ _ (L.length : Int) (L.length : Int) _ _ = _
      simp only [spec_Probing.l0]; rw [if_neg (by omega)])
  exact this
theorem spec_prob (L : List S45) (x y : Int) (h : L.length ≤ 1048576) : Ev (fun k => spec_Probing.f k L x y) (probM L x y) := by
  unfold spec_Probing.f
  by_cases h1 : (L.length : Int) > 4096
  · simp only [if_pos h1, probM]; exact ev_const rfl
  simp only [if_neg h1]
  have stop : ¬ (L.length ≤ 200 ∧ ptsOK L ∧ ptOK x y = true) → Ev (fun k => spec_Probing.j0 k L true x y) (probM L x y) := fun hc => by
    unfold probM; rw [if_neg h1, if_neg hc]; exact ev_some fun k => by simp only [spec_Probing.j0, if_true]
  by_cases h2 : (L.length : Int) > 200
  · simp only [if_pos h2]; exact stop (by omega)
  simp only [if_neg h2]
  refine Ev.bind (spec_pts L h) ?_
  by_cases h3 : ptsOK L
  · simp only [decide_eq_true h3, if_true, spec_pt, Option.bind_some]
    by_cases h4 : ptOK x y = true
    · rw [h4]
      have e : probM L x y = ((tour L x y L.length).out, (tour L x y L.length).len, 0) := by unfold probM; rw [if_neg h1, if_pos ⟨by omega, h3, h4⟩]
      rw [e]
      refine ev_one (f := fun k => spec_Probing.l0 k L (List.replicate L.length false) [] 0 (L.length : Int) 0 x y) (fun k => ?_) (spec_tour h3 (by omega) h4)
      simp only [spec_Probing.j0, Bool.not_true, Bool.false_eq_true, if_false, Int.toNat_natCast]
      rw [if_pos (by omega), if_pos (by omega)]
    · rw [show ptOK x y = false by simpa using h4]
      exact stop fun hc => h4 hc.2.2
  · simp only [decide_eq_false h3, Bool.false_eq_true, if_false]; exact stop fun hc => h3 hc.2.1

theorem impl_round {L : List S45} (hL : ptsOK L) (hn : L.length ≤ 200) {j : Nat} {s : St} (g : Good L j s) (hj : j < L.length) {r : List Int × Int × Int}
    (h : Ev (fun k => impl_Probing.l1 k L (s.v.set (scan L s.v s.x s.y L.length).1.toNat true) (s.out ++ [(scan L s.v s.x s.y L.length).1]) (s.len + (scan L s.v s.x s.y L.length).2) (rd_T45 L (scan L s.v s.x s.y L.length).1).f0 (rd_T45 L (scan L s.v s.x s.y L.length).1).f1) r) :
    Ev (fun k => impl_Probing.l1 k L s.v s.out s.len s.x s.y) r := by
  have b := good_scan hL g hj
  obtain ⟨d, _⟩ := scan_ok hL s.v g.pt L.length (Nat.le_refl _)
  have gv := g.vl; have go := g.ol; have gl := g.l0; have gm := g.l1; have gp := of_decide_eq_true g.pt
  refine ev_one (f := fun k => impl_Probing.l2 k L s.v s.out s.len 0 (-1) L (L.length : Int) 0 s.x s.y) (fun k => by simp only [impl_Probing.l1]; rw [if_pos (by omega)]) ?_
  have := ev_run0 (r := r) (fun i k => impl_Probing.l2 k L s.v s.out s.len (scan L s.v s.x s.y i).2 (scan L s.v s.x s.y i).1 L (L.length : Int) (i : Int) s.x s.y) L.length (fun i hi k => by
    show impl_Probing.l2 (k + 1) L s.v s.out s.len (scan L s.v s.x s.y i).2 (scan L s.v s.x s.y i).1 L (L.length : Int) (i : Int) s.x s.y = impl_Probing.l2 k L s.v s.out s.len (scan L s.v s.x s.y (i + 1)).2 (scan L s.v s.x s.y (i + 1)).1 L (L.length : Int) ((i + 1 : Nat) : Int) s.x s.y
    have q := of_decide_eq_true (hL i hi)
    have dd := dst_ok hL g.pt i hi
    have hd : wrap64 ((((rd_T45 L (i : Int)).f0 - s.x).natAbs : Int) + (((rd_T45 L (i : Int)).f1 - s.y).natAbs : Int)) = dst L s.x s.y i := by unfold dst at *; exact wr (by omega) (by omega)
    simp only [impl_Probing.l2]
    rw [if_pos (by omega), if_pos (by omega), if_pos (by omega), wr (n := (rd_T45 L (i : Int)).f0 - s.x) (by omega) (by omega), wr (n := (rd_T45 L (i : Int)).f1 - s.y) (by omega) (by omega), abs2 _ (by omega) (by omega), abs2 _ (by omega) (by omega)]
    simp only [Option.bind_some, hd, wr_succ i (show i < 9223372036854775807 by omega)]
    rw [if_pos (by omega)]
    rw [scan]
    split
    · rfl
    · split
      · rfl
      · split <;> rfl) (ev_one (f := fun k => impl_Probing.l1 k L (s.v.set (scan L s.v s.x s.y L.length).1.toNat true) (s.out ++ [(scan L s.v s.x s.y L.length).1]) (s.len + (scan L s.v s.x s.y L.length).2) (rd_T45 L (scan L s.v s.x s.y L.length).1).f0 (rd_T45 L (scan L s.v s.x s.y L.length).1).f1) (fun k => by
    show impl_Probing.l2 (k + 1) L s.v s.out s.len (scan L s.v s.x s.y L.length).2 (scan L s.v s.x s.y L.length).1 L (L.length : Int) (L.length : Int) s.x s.y = _
    simp only [impl_Probing.l2]
    rw [if_neg (by omega), if_pos (by omega), if_pos (by omega), if_pos (by omega), if_pos (by omega), wr (n := s.len + (scan L s.v s.x s.y L.length).2) (by omega) (by omega)]) h)
  exact this
theorem impl_tour {L : List S45} (hL : ptsOK L) (hn : L.length ≤ 200) {x y : Int} (hp : ptOK x y = true) :
    Ev (fun k => impl_Probing.l1 k L (List.replicate L.length false) [] 0 x y) ((tour L x y L.length).out, (tour L x y L.length).len, 0) := by
  have := ev_steps (r := ((tour L x y L.length).out, (tour L x y L.length).len, (0 : Int))) (fun j k => impl_Probing.l1 k L (tour L x y j).v (tour L x y j).out (tour L x y j).len (tour L x y j).x (tour L x y j).y) L.length
    (fun j hj h => impl_round hL hn (good_tour hL hp j (by omega)) hj h)
    (ev_some fun k => by
      have := (good_tour hL hp L.length (Nat.le_refl _)).ol
      show impl_Probing.l1 (k + 1) L _ _ _ _ _ = _
      simp only [impl_Probing.l1]; rw [if_neg (by omega)])
  exact this
theorem impl_prob (L : List S45) (x y : Int) (h : L.length ≤ 1048576) : Ev (fun k => impl_Probing.f k L x y) (probM L x y) := by
  unfold impl_Probing.f
  by_cases h1 : (L.length : Int) > 4096
  · simp only [if_pos h1, probM]; exact ev_const rfl
  simp only [if_neg h1]
  have stop : ¬ (L.length ≤ 200 ∧ ptsOK L ∧ ptOK x y = true) → Ev (fun k => impl_Probing.j0 k L true x y) (probM L x y) := fun hc => by
    unfold probM; rw [if_neg h1, if_neg hc]; exact ev_some fun k => by simp only [impl_Probing.j0, if_true]
  by_cases h2 : (L.length : Int) > 200
  · simp only [if_pos h2]; exact stop (by omega)
  simp only [if_neg h2, impl_pt, Option.bind_some]
  by_cases h4 : ptOK x y = true
  · rw [h4]
    refine ev_one (f := fun k => impl_Probing.l0 k L L (L.length : Int) 0 x y) (fun k => by simp only [impl_Probing.j0, Bool.not_true, Bool.false_eq_true, if_false]) ?_
    have key := all_loop (r := ((tour L x y L.length).out, (tour L x y L.length).len, (0 : Int))) (bad := (([] : List Int), (0 : Int), (1 : Int))) (fun i k => impl_Probing.l0 k L L (L.length : Int) (i : Int) x y) L.length (fun i => ptOK (rd_T45 L (i : Int)).f0 (rd_T45 L (i : Int)).f1)
      (fun i hi hp => ⟨0, fun k _ => by
        show impl_Probing.l0 (k + 1) L L (L.length : Int) (i : Int) x y = impl_Probing.l0 k L L (L.length : Int) ((i + 1 : Nat) : Int) x y
        simp only [impl_Probing.l0, impl_pt, hp, Option.bind_some, if_true]
        rw [if_pos (by omega), if_pos (by omega), if_pos (by omega), wr_succ i (by omega)]⟩)
      (fun i hi hp => ev_some fun k => by
        show impl_Probing.l0 (k + 1) L L (L.length : Int) (i : Int) x y = _
        simp only [impl_Probing.l0, impl_pt, hp, Option.bind_some, Bool.false_eq_true, if_false]
        rw [if_pos (by omega), if_pos (by omega), if_pos (by omega)])
      (fun h3 => ev_one (f := fun k => impl_Probing.l1 k L (List.replicate L.length false) [] 0 x y) (fun k => by
        show impl_Probing.l0 (k + 1) L L (L.length : Int) (L.length : Int) x y = _
        simp only [impl_Probing.l0, Int.toNat_natCast]
        rw [if_neg (by omega), if_pos (by omega), if_pos (by omega)]) (impl_tour h3 (by omega) h4))
    have e : probM L x y = if ptsOK L then ((tour L x y L.length).out, (tour L x y L.length).len, (0 : Int)) else ([], 0, 1) := by
      unfold probM; rw [if_neg h1]
      by_cases hc : ptsOK L
      · rw [if_pos hc, if_pos ⟨by omega, hc, h4⟩]
      · rw [if_neg hc, if_neg fun hh => hc hh.2.1]
    rw [e]; exact key
  · rw [show ptOK x y = false by simpa using h4]
    exact stop fun hc => h4 hc.2.2
theorem prob_len (L : List S45) (x y : Int) : (probM L x y).1.length ≤ 200 := by
  unfold probM
  split
  · simp
  · split
    · rename_i h; simp only [(good_tour h.2.1 h.2.2 L.length (Nat.le_refl _)).ol]; exact h.1
    · simp

def judgeM (v l h d : Int) : Int × Int :=
  if (-100000 ≤ v ∧ v ≤ 100000) ∧ (-100000 ≤ l ∧ l ≤ 100000) ∧ (-100000 ≤ h ∧ h ≤ 100000) ∧ (-100000 ≤ d ∧ d ≤ 100000) ∧ l ≤ h ∧ 0 ≤ d then
    (if l ≤ v - d ∧ v + d ≤ h then (1, 0) else if v + d < l ∨ h < v - d then (2, 0) else (3, 0))
  else (0, 1)
theorem impl_judge (v l h d : Int) : impl_Judge.f v l h d = some (judgeM v l h d) := by
  have e : ∀ x, impl_Judge1 x = false ↔ ¬ (-100000 ≤ x ∧ x ≤ 100000) := fun x => by unfold impl_Judge1; simp
  unfold impl_Judge.f judgeM
  simp only [e]
  grind (splits := 40)
theorem spec_judge (v l h d : Int) : spec_Judge.f 9 v l h d = some (judgeM v l h d) := by
  have w1 : wrap64 1 = 1 := wr (by decide) (by decide)
  have w2 : wrap64 2 = 2 := wr (by decide) (by decide)
  have w3 : wrap64 3 = 3 := wr (by decide) (by decide)
  have w4 : wrap64 4 = 4 := wr (by decide) (by decide)
  by_cases hb : (-100000 ≤ v ∧ v ≤ 100000) ∧ (-100000 ≤ l ∧ l ≤ 100000) ∧ (-100000 ≤ h ∧ h ≤ 100000) ∧ (-100000 ≤ d ∧ d ≤ 100000)
  · have a1 : wrap64 (v - d) = v - d := wr (by omega) (by omega)
    have a2 : wrap64 (v + d) = v + d := wr (by omega) (by omega)
    simp [spec_Judge.f, spec_Judge.l0, spec_Judge.j1, spec_Judge.j2, judgeM, rd, w1, w2, w3, w4, a1, a2]
    grind (splits := 40)
  · have hM : judgeM v l h d = (0, 1) := by unfold judgeM; rw [if_neg (by omega)]
    rw [hM]
    simp [spec_Judge.f, spec_Judge.l0, spec_Judge.j1, spec_Judge.j2, rd, w1, w2, w3, w4]
    grind (splits := 40)

theorem lawsabs (x : Int) (h0 : -1000000 ≤ x) (h1 : x ≤ 1000000) : laws_abs.f x = some (x.natAbs : Int) := by
  unfold laws_abs.f
  by_cases h : x < 0
  · rw [if_pos h, wr (by omega) (by omega)]; congr 1; omega
  · rw [if_neg h]; congr 1; omega
theorem scan_min {L : List S45} (hL : ptsOK L) (v : List Bool) {x y : Int} (hp : ptOK x y = true) : ∀ i, i ≤ L.length → 0 ≤ (scan L v x y i).1 →
    rdOf false v (scan L v x y i).1 = false ∧ (scan L v x y i).2 = dst L x y (scan L v x y i).1.toNat ∧ ∀ k, k < i → rdOf false v (k : Int) = false → (scan L v x y i).2 ≤ dst L x y k := by
  intro i
  induction i with
  | zero => intro _ h; simp [scan] at h
  | succ i ih =>
    intro hi h0
    have ih := ih (by omega)
    have ok := (scan_ok hL v hp i (by omega)).2
    by_cases h1 : rdOf false v (i : Int) = true
    · have e : scan L v x y (i + 1) = scan L v x y i := by rw [scan]; rw [if_pos h1]
      rw [e] at h0 ⊢
      obtain ⟨a, b, c⟩ := ih h0
      refine ⟨a, b, fun k hk hv => ?_⟩
      rcases Nat.lt_or_ge k i with h | h
      · exact c k h hv
      · obtain rfl : k = i := by omega
        rw [h1] at hv; cases hv
    · have h1' : rdOf false v (i : Int) = false := by simpa using h1
      by_cases h2 : (scan L v x y i).1 < 0
      · have e : scan L v x y (i + 1) = ((i : Int), dst L x y i) := by rw [scan]; rw [if_neg h1, if_pos h2]
        rw [e]
        refine ⟨h1', by simp, fun k hk hv => ?_⟩
        rcases ok with ⟨_, q⟩ | q
        · rcases Nat.lt_or_ge k i with h | h
          · rw [q k h] at hv; cases hv
          · obtain rfl : k = i := by omega
            exact Int.le_refl _
        · omega
      · obtain ⟨a, b, c⟩ := ih (by omega)
        by_cases h3 : dst L x y i < (scan L v x y i).2
        · have e : scan L v x y (i + 1) = ((i : Int), dst L x y i) := by rw [scan]; rw [if_neg h1, if_neg h2, if_pos h3]
          rw [e]
          refine ⟨h1', by simp, fun k hk hv => ?_⟩
          rcases Nat.lt_or_ge k i with h | h
          · have := c k h hv; show dst L x y i ≤ _; omega
          · obtain rfl : k = i := by omega
            exact Int.le_refl _
        · have e : scan L v x y (i + 1) = scan L v x y i := by rw [scan]; rw [if_neg h1, if_neg h2, if_neg h3]
          rw [e]
          refine ⟨a, b, fun k hk hv => ?_⟩
          rcases Nat.lt_or_ge k i with h | h
          · exact c k h hv
          · obtain rfl : k = i := by omega
            omega
theorem tour_len (L : List S45) (x y : Int) : ∀ n, (tour L x y n).out.length = n := by
  intro n
  induction n with
  | zero => rfl
  | succ n ih => simp [tour, ih]
theorem tour_at (L : List S45) (x y : Int) (j : Nat) : ∀ n, j < n → rd (tour L x y n).out (j : Int) = (scan L (tour L x y j).v (tour L x y j).x (tour L x y j).y L.length).1 := by
  intro n
  induction n with
  | zero => intro h; omega
  | succ n ih =>
    intro h
    have e : (tour L x y (n + 1)).out = (tour L x y n).out ++ [(scan L (tour L x y n).v (tour L x y n).x (tour L x y n).y L.length).1] := rfl
    have hl := tour_len L x y n
    rw [rd_lt _ j (by rw [tour_len]; exact h)]
    rcases Nat.lt_or_ge j n with g | g
    · rw [← ih g, rd_lt _ j (by omega)]
      simp only [e]
      rw [List.getElem_append_left (by omega)]
    · obtain rfl : j = n := by omega
      simp only [e]
      rw [List.getElem_append_right (by omega)]
      simp [hl]
theorem probe_in {L : List S45} (hL : ptsOK L) (hn : L.length ≤ 200) {j : Nat} {s : St} (g : Good L j s) (way l : List Int) (long d : Int)
    (hd : ∀ k, k < L.length → rdOf false s.v (k : Int) = false → d ≤ dst L s.x s.y k) {r : Bool}
    (h : Ev (fun k => laws_FnProbe.l1 k l L way long s.v s.len (j : Int) d (L.length : Int) s.x s.y) r) :
    Ev (fun k => laws_FnProbe.l1 k l L way long s.v s.len (j : Int) d 0 s.x s.y) r := by
  refine ev_steps (r := r) (fun i k => laws_FnProbe.l1 k l L way long s.v s.len (j : Int) d (i : Int) s.x s.y) L.length (fun i hi h => ?_) h
  have q := of_decide_eq_true (hL i hi)
  have gp := of_decide_eq_true g.pt
  have gv := g.vl
  have dd := dst_ok hL g.pt i hi
  have he : wrap64 ((((rd_T45 L (i : Int)).f0 - s.x).natAbs : Int) + (((rd_T45 L (i : Int)).f1 - s.y).natAbs : Int)) = dst L s.x s.y i := by unfold dst at *; exact wr (by omega) (by omega)
  have nx : Ev (fun k => laws_FnProbe.j5 k l L way long s.v s.len (j : Int) d (i : Int) s.x s.y) r := ev_one (f := fun k => laws_FnProbe.l1 k l L way long s.v s.len (j : Int) d ((i + 1 : Nat) : Int) s.x s.y) (fun k => by simp only [laws_FnProbe.j5, wr_succ i (show i < 9223372036854775807 by omega)]) h
  refine ev_one (f := fun k => laws_FnProbe.j5 k l L way long s.v s.len (j : Int) d (i : Int) s.x s.y) (fun k => ?_) nx
  simp only [laws_FnProbe.l1]
  rw [if_pos (by omega), if_pos (by omega), if_pos (by omega)]
  by_cases hv : rdOf false s.v (i : Int) = true
  · rw [if_pos hv]
  · rw [if_neg hv, wr (n := (rd_T45 L (i : Int)).f0 - s.x) (by omega) (by omega), wr (n := (rd_T45 L (i : Int)).f1 - s.y) (by omega) (by omega), lawsabs _ (by omega) (by omega), lawsabs _ (by omega) (by omega)]
    have := hd i hi (by simpa using hv)
    simp only [Option.bind_some, he]
    rw [if_neg (by omega)]
theorem probe_round {L : List S45} (hL : ptsOK L) (hn : L.length ≤ 200) {x y : Int} (hp : ptOK x y = true) (l : List Int) (long : Int) (j : Nat) (hj : j < L.length) {r : Bool}
    (h : Ev (fun k => laws_FnProbe.l0 k l L (tour L x y L.length).out long (tour L x y (j + 1)).v (tour L x y (j + 1)).len ((j + 1 : Nat) : Int) (tour L x y (j + 1)).x (tour L x y (j + 1)).y) r) :
    Ev (fun k => laws_FnProbe.l0 k l L (tour L x y L.length).out long (tour L x y j).v (tour L x y j).len (j : Int) (tour L x y j).x (tour L x y j).y) r := by
  have g := good_tour hL hp j (by omega)
  have b := good_scan hL g hj
  have hat := tour_at L x y j L.length hj
  have hwl := tour_len L x y L.length
  obtain ⟨m1, m2, m3⟩ := scan_min hL (tour L x y j).v g.pt L.length (Nat.le_refl _) b.1
  obtain ⟨d, _⟩ := scan_ok hL (tour L x y j).v g.pt L.length (Nat.le_refl _)
  have gv := g.vl; have gl := g.l0; have gm := g.l1; have gp := of_decide_eq_true g.pt
  have hS : tour L x y (j + 1) = ⟨(tour L x y j).v.set (scan L (tour L x y j).v (tour L x y j).x (tour L x y j).y L.length).1.toNat true, (tour L x y j).out ++ [(scan L (tour L x y j).v (tour L x y j).x (tour L x y j).y L.length).1], (tour L x y j).len + (scan L (tour L x y j).v (tour L x y j).x (tour L x y j).y L.length).2, (rd_T45 L (scan L (tour L x y j).v (tour L x y j).x (tour L x y j).y L.length).1).f0, (rd_T45 L (scan L (tour L x y j).v (tour L x y j).x (tour L x y j).y L.length).1).f1⟩ := by rw [tour]
  rw [hS] at h
  revert h m1 m2 m3 d b hat
  generalize tour L x y j = s at *
  generalize scan L s.v s.x s.y L.length = c
  obtain ⟨c1, c2⟩ := c
  intro h b hat m1 m2 m3 d
  simp only at hat b d m1 m2 m3 h
  have hat' : rd (tour L x y L.length).out (j : Int) = c1 := hat
  have w1 : wrap64 (s.len + c2) = s.len + c2 := by clear m1 m2 m3 hat hat' hS h; exact wr (by omega) (by omega)
  have q := of_decide_eq_true (hL c1.toNat (by omega))
  rw [Int.toNat_of_nonneg b.1] at q
  have u1 : wrap64 ((rd_T45 L c1).f0 - s.x) = (rd_T45 L c1).f0 - s.x := by clear m1 m2 m3 hat hat' hS h; exact wr (by omega) (by omega)
  have u2 : wrap64 ((rd_T45 L c1).f1 - s.y) = (rd_T45 L c1).f1 - s.y := by clear m1 m2 m3 hat hat' hS h; exact wr (by omega) (by omega)
  have u3 : laws_abs.f ((rd_T45 L c1).f0 - s.x) = some (((rd_T45 L c1).f0 - s.x).natAbs : Int) := by clear m1 m2 m3 hat hat' hS h u1 u2; exact lawsabs _ (by omega) (by omega)
  have u4 : laws_abs.f ((rd_T45 L c1).f1 - s.y) = some (((rd_T45 L c1).f1 - s.y).natAbs : Int) := by clear m1 m2 m3 hat hat' hS h u1 u2; exact lawsabs _ (by omega) (by omega)
  have he : wrap64 ((((rd_T45 L c1).f0 - s.x).natAbs : Int) + (((rd_T45 L c1).f1 - s.y).natAbs : Int)) = c2 := by
    rw [m2]; unfold dst; rw [Int.toNat_of_nonneg b.1]; clear m1 m2 m3 hat hat' hS h u1 u2 u3 u4; exact wr (by omega) (by omega)
  have nh : ¬ c1 < 0 := by have := b.1; omega
  have nh' : ¬ c1 ≥ (L.length : Int) := by have := b.2; omega
  have nv : c1 < (s.v.length : Int) := by have := b.2; omega
  have nw : (j : Int) < ((tour L x y L.length).out.length : Int) := by omega
  have last : Ev (fun k => laws_FnProbe.l1 k l L (tour L x y L.length).out long s.v s.len (j : Int) c2 (L.length : Int) s.x s.y) r :=
    ev_one (f := fun k => laws_FnProbe.l0 k l L (tour L x y L.length).out long (s.v.set c1.toNat true) (s.len + c2) ((j + 1 : Nat) : Int) (rd_T45 L c1).f0 (rd_T45 L c1).f1) (fun k => by
      simp only [laws_FnProbe.l1, hat']
      rw [if_neg (Int.lt_irrefl _), if_pos (Int.natCast_nonneg _), if_pos nw, if_pos b.1, if_pos nv, if_pos b.2, w1, wr_succ j (by omega)]) h
  have inn := probe_in hL hn g (tour L x y L.length).out l long c2 (fun k hk hv => m3 k hk hv) last
  have third : Ev (fun k => laws_FnProbe.j3 k l L (tour L x y L.length).out long s.v s.len (j : Int) false s.x s.y) r :=
    ev_one (f := fun k => laws_FnProbe.l1 k l L (tour L x y L.length).out long s.v s.len (j : Int) c2 0 s.x s.y) (fun k => by
      simp only [laws_FnProbe.j3, hat', Bool.false_eq_true, if_false]
      rw [if_pos (Int.natCast_nonneg _), if_pos nw, if_pos b.1, if_pos b.2, u1, u2, u3, u4]
      simp only [Option.bind_some, he]) inn
  refine ev_one (f := fun k => laws_FnProbe.j3 k l L (tour L x y L.length).out long s.v s.len (j : Int) false s.x s.y) (fun k => ?_) third
  simp only [laws_FnProbe.l0, hat', m1]
  rw [if_pos nw, if_pos (Int.natCast_nonneg _), if_neg nh, if_neg nh', if_pos b.1, if_pos nv]
theorem drawj_ok (l : List Int) (hb : ∀ x ∈ l, 0 ≤ x ∧ x ≤ 255) (hl : l.length ≤ 1048577) : ∃ a b c d, spec_DrawJudge.f l = some (a, b, c, d) := by
  unfold spec_DrawJudge.f
  obtain ⟨s, e0, h0⟩ := src_new l hb hl
  obtain ⟨r1, a1, s1, e1, _, _, h1⟩ := next_ok h0 (by omega) 20 (by omega)
  obtain ⟨r2, a2, s2, e2, _, _, h2⟩ := next_ok h1 (by omega) 16 (by omega)
  obtain ⟨r3, a3, s3, e3, _, _, h3⟩ := next_ok h2 (by omega) 10 (by omega)
  obtain ⟨r4, a4, s4, e4, _, _, h4⟩ := next_ok h3 (by omega) 4 (by omega)
  obtain ⟨r5, a5, s5, e5, h5⟩ := chance_ok h4 (by omega) 12 (by omega)
  obtain ⟨r6, a6, s6, e6, g6, g6', h6⟩ := next_ok h5 (by omega) 4 (by omega)
  obtain ⟨r7, a7, s7, e7, h7⟩ := odd_ok h6 (by omega)
  obtain ⟨r8, a8, s8, e8, g8, g8', h8⟩ := next_ok h7 (by omega) 4 (by omega)
  simp only [e0, e1, e2, e3, e4, e5, e6, e7, e8, Option.bind_some, List.length_cons, List.length_nil]
  by_cases hc : r5 = true
  · rw [if_pos hc, if_pos g8, if_pos (by omega), if_pos g6, if_pos (by omega)]
    exact ⟨_, _, _, _, rfl⟩
  · rw [if_neg hc]
    exact ⟨_, _, _, _, rfl⟩
theorem spec_judge' (k : Nat) (v l h d : Int) : spec_Judge.f (k + 10) v l h d = some (judgeM v l h d) :=
  at_rounds (fun k => spec_Judge.mono v l h d k) (show 9 ≤ k + 10 by omega) (spec_judge v l h d)
theorem probe_last (l : List Int) (hb : ∀ x ∈ l, 0 ≤ x ∧ x ≤ 255) (hl : l.length ≤ 1048577) (L : List S45) (way : List Int) (long : Int) (v : List Bool) (x y : Int) :
    Ev (fun k => laws_FnProbe.l0 k l L way long v long (way.length : Int) x y) true := by
  obtain ⟨a, b, c, d, e⟩ := drawj_ok l hb hl
  refine ⟨12, fun k hk => ?_⟩
  obtain ⟨k, rfl⟩ : ∃ j, k = j + 11 := ⟨k - 11, by omega⟩
  have s1 := spec_judge' k a b c d
  simp only [laws_FnProbe.l0, e, Option.bind_some, impl_judge, s1]
  rw [if_neg (by omega)]
  simp only [if_true]
  by_cases hok : (-100000 ≤ a ∧ a ≤ 100000) ∧ (-100000 ≤ b ∧ b ≤ 100000) ∧ (-100000 ≤ c ∧ c ≤ 100000) ∧ (-100000 ≤ d ∧ d ≤ 100000) ∧ b ≤ c ∧ 0 ≤ d
  · have w1 : wrap64 (a - d) = a - d := wr (by omega) (by omega)
    have w2 : wrap64 (a + d) = a + d := wr (by omega) (by omega)
    have hM : judgeM a b c d = if b ≤ a - d ∧ a + d ≤ c then (1, 0) else if a + d < b ∨ c < a - d then (2, 0) else (3, 0) := by unfold judgeM; rw [if_pos hok]
    rw [hM, w1, w2]
    by_cases g1 : a + d ≥ b <;> by_cases g2 : a - d ≥ b <;> by_cases g3 : a + d ≤ c <;> by_cases g4 : a - d ≤ c <;>
      simp [laws_FnProbe.j6, laws_FnProbe.j7, laws_FnProbe.j8, laws_FnProbe.j9, g1, g2, g3, g4] <;> grind (splits := 40)
  · have hM : judgeM a b c d = (0, 1) := by unfold judgeM; rw [if_neg hok]
    simp [hM]
theorem point_ok {l : List Int} {a s : Int} {n : Nat} (h : Src l a s n) (hn : n ≤ 4611686018427387000) : ∃ x y a' s', spec_l00Src_point.f l a s = some (x, y, a', s') ∧ ptOK x y = true ∧ Src l a' s' (n + 9) := by
  unfold spec_l00Src_point.f
  obtain ⟨r1, a1, s1, e1, p1, q1, h1⟩ := next_ok h (by omega) 9 (by omega)
  simp only [e1, Option.bind_some]
  by_cases c0 : r1 = 0
  · obtain ⟨r2, a2, s2, e2, p2, q2, h2⟩ := next_ok h1 (by omega) 200001 (by omega)
    obtain ⟨r3, a3, s3, e3, p3, q3, h3⟩ := next_ok h2 (by omega) 200001 (by omega)
    simp only [if_pos c0, e2, e3, Option.bind_some]
    rw [wr (n := r2 - 100000) (by omega) (by omega), wr (n := r3 - 100000) (by omega) (by omega)]
    exact ⟨_, _, _, _, rfl, decide_eq_true (by omega), h3.up (by omega)⟩
  · simp only [if_neg c0]
    by_cases c1 : r1 = 1
    · obtain ⟨r2, a2, s2, e2, p2, q2, h2⟩ := next_ok h1 (by omega) 3 (by omega)
      obtain ⟨r3, a3, s3, e3, p3, q3, h3⟩ := next_ok h2 (by omega) 3 (by omega)
      simp only [if_pos c1, e2, e3, Option.bind_some, List.length_cons, List.length_nil]
      rw [if_pos p2, if_pos (by omega), if_pos p3, if_pos (by omega)]
      refine ⟨_, _, _, _, rfl, ?_, h3.up (by omega)⟩
      have t2 : r2 = 0 ∨ r2 = 1 ∨ r2 = 2 := by omega
      have t3 : r3 = 0 ∨ r3 = 1 ∨ r3 = 2 := by omega
      rcases t2 with rfl | rfl | rfl <;> rcases t3 with rfl | rfl | rfl <;> decide
    · obtain ⟨r2, a2, s2, e2, p2, q2, h2⟩ := next_ok h1 (by omega) 13 (by omega)
      obtain ⟨r3, a3, s3, e3, p3, q3, h3⟩ := next_ok h2 (by omega) 13 (by omega)
      simp only [if_neg c1, e2, e3, Option.bind_some]
      rw [wr (n := r2 - 6) (by omega) (by omega), wr (n := r3 - 6) (by omega) (by omega)]
      exact ⟨_, _, _, _, rfl, decide_eq_true (by omega), h3.up (by omega)⟩
theorem points_loop (l : List Int) : ∀ (m : Nat) (acc : List S45) (a s : Int) (n : Nat), Src l a s n → n + 9 * m ≤ 1000000 → acc.length + m ≤ 1000000 → (∀ p ∈ acc, ptOK p.f0 p.f1 = true) →
    ∃ L, Ev (fun k => spec_PointsOf.l0 k acc (m : Int) l a s) L ∧ L.length = acc.length + m ∧ ∀ p ∈ L, ptOK p.f0 p.f1 = true := by
  intro m
  induction m with
  | zero => intro acc a s n h hn hm ha; exact ⟨acc, ev_some fun k => by simp only [spec_PointsOf.l0]; rw [if_neg (by omega)], rfl, ha⟩
  | succ m ih =>
    intro acc a s n h hn hm ha
    obtain ⟨x, y, a', s', e, hp, h'⟩ := point_ok h (by omega)
    obtain ⟨L, hL, hl, hq⟩ := ih (acc ++ [⟨x, y⟩]) a' s' (n + 9) h' (by omega) (by simp; omega) (by
      intro p hp'
      rcases List.mem_append.mp hp' with q | q
      · exact ha p q
      · obtain rfl := List.mem_singleton.mp q; exact hp)
    refine ⟨L, ev_one (f := fun k => spec_PointsOf.l0 k (acc ++ [⟨x, y⟩]) (m : Int) l a' s') (fun k => ?_) hL, by rw [hl]; simp; omega, hq⟩
    simp only [spec_PointsOf.l0, e, Option.bind_some]
    rw [if_pos (by omega), if_pos (by omega), wr (by omega) (by omega), show ((m + 1 : Nat) : Int) - 1 = (m : Int) by omega]
theorem points_ok (l : List Int) (hb : ∀ x ∈ l, 0 ≤ x ∧ x ≤ 255) (hl : l.length ≤ 1048577) : ∃ L, Ev (fun k => spec_PointsOf.f k l) L ∧ 4 ≤ L.length ∧ L.length ≤ 16 ∧ ptsOK L := by
  obtain ⟨s, e0, h0⟩ := src_new l hb hl
  obtain ⟨z, es, z1, z2⟩ : ∃ z, spec_l00Src_size.f l 0 s 12 = some (z, 0, s) ∧ 1 ≤ z ∧ z ≤ 12 := by
    have w1 : wrap64 ((l.length : Int) / 12) = (l.length : Int) / 12 := wr (by omega) (by omega)
    have w2 : wrap64 (1 + (l.length : Int) / 12) = 1 + (l.length : Int) / 12 := wr (by omega) (by omega)
    refine ⟨_, rfl, ?_, ?_⟩
    · rw [w1, w2, mn_eq]; omega
    · rw [w1, w2, mn_eq]; omega
  have w3 : wrap64 (z + 1) = z + 1 := wr (by omega) (by omega)
  obtain ⟨r, a, s1, e1, p1, q1, h1⟩ := next_ok h0 (by omega) (z + 1) (by omega)
  have w4 : wrap64 (4 + r) = 4 + r := wr (by omega) (by omega)
  have key : ∀ k, spec_PointsOf.f k l = spec_PointsOf.l0 k [] (4 + r) l a s1 := fun k => by
    unfold spec_PointsOf.f
    rw [e0, Option.bind_some, es, Option.bind_some, w3, e1, Option.bind_some, w4]
  obtain ⟨L, hL, hn, hp⟩ := points_loop l (4 + r).toNat [] a s1 _ h1 (by omega) (by simp; omega) (by simp)
  rw [Int.toNat_of_nonneg (by omega)] at hL
  have hn' : L.length = (4 + r).toNat := by rw [hn]; simp
  refine ⟨L, Ev.congr key hL, by omega, by omega, fun i hi => ?_⟩
  have : rd_T45 L (i : Int) ∈ L := by
    unfold rd_T45
    rw [Int.toNat_natCast, List.getD_eq_getElem?_getD, List.getElem?_eq_getElem hi]
    exact List.getElem_mem hi
  exact hp _ this
theorem same_way (l : List Int) (h : l.length ≤ 1048576) : Ev (fun k => laws_sameInts.f k l l) true := by
  unfold laws_sameInts.f
  simp only [if_true]
  exact ev_run0 (r := true) (fun i k => laws_sameInts.l0 k l l (i : Int)) l.length (fun i hi k => by
    show laws_sameInts.l0 (k + 1) l l (i : Int) = laws_sameInts.l0 k l l ((i + 1 : Nat) : Int)
    simp only [laws_sameInts.l0, if_true]
    rw [if_pos (by omega), if_pos (by omega), if_pos (by omega), wr_succ i (by omega)]) (ev_some fun k => by
    show laws_sameInts.l0 (k + 1) l l (l.length : Int) = _
    simp only [laws_sameInts.l0]; rw [if_neg (by omega)])

theorem FnProbe : laws_FnProbe.Plain := by
  intro l m hl hm
  refine Ev.rounds ?_
  have stop : Ev (fun k => laws_FnProbe.j0 k l m true) true := ev_some fun k => by simp only [laws_FnProbe.j0, if_true]
  unfold laws_FnProbe.f
  by_cases h1 : (l.length : Int) > 1048576
  · simp only [if_pos h1]; exact stop
  simp only [if_neg h1]
  by_cases h2 : (m.length : Int) > 1048576
  · simp only [h2, decide_true]; exact stop
  simp only [h2, decide_false]
  obtain ⟨L, hL, n4, n16, hp⟩ := points_ok l (bytes_of hl.2) (by omega)
  obtain ⟨i, ei, i0, i1⟩ := at_ok m (bytes_of hm.2) (by omega) 0 (L.length : Int) (by omega) (by omega) (by omega)
  have hs := hp i.toNat (by omega)
  rw [Int.toNat_of_nonneg i0] at hs
  have sp := spec_prob L (rd_T45 L i).f0 (rd_T45 L i).f1 (by omega)
  have ip := impl_prob L (rd_T45 L i).f0 (rd_T45 L i).f1 (by omega)
  have hM : probM L (rd_T45 L i).f0 (rd_T45 L i).f1 = ((tour L (rd_T45 L i).f0 (rd_T45 L i).f1 L.length).out, (tour L (rd_T45 L i).f0 (rd_T45 L i).f1 L.length).len, 0) := by
    unfold probM; rw [if_neg (by omega), if_pos ⟨by omega, hp, hs⟩]
  rw [hM] at sp ip
  have hw := tour_len L (rd_T45 L i).f0 (rd_T45 L i).f1 L.length
  have so := same_way (tour L (rd_T45 L i).f0 (rd_T45 L i).f1 L.length).out (by omega)
  have last := probe_last l (bytes_of hl.2) (by omega) L (tour L (rd_T45 L i).f0 (rd_T45 L i).f1 L.length).out (tour L (rd_T45 L i).f0 (rd_T45 L i).f1 L.length).len (tour L (rd_T45 L i).f0 (rd_T45 L i).f1 L.length).v (tour L (rd_T45 L i).f0 (rd_T45 L i).f1 L.length).x (tour L (rd_T45 L i).f0 (rd_T45 L i).f1 L.length).y
  rw [hw] at last
  have all := ev_steps (r := true) (fun j k => laws_FnProbe.l0 k l L (tour L (rd_T45 L i).f0 (rd_T45 L i).f1 L.length).out (tour L (rd_T45 L i).f0 (rd_T45 L i).f1 L.length).len (tour L (rd_T45 L i).f0 (rd_T45 L i).f1 j).v (tour L (rd_T45 L i).f0 (rd_T45 L i).f1 j).len (j : Int) (tour L (rd_T45 L i).f0 (rd_T45 L i).f1 j).x (tour L (rd_T45 L i).f0 (rd_T45 L i).f1 j).y) L.length
    (fun j hj h => probe_round hp (by omega) hs l _ j hj h) last
  have one : Ev (fun k => laws_FnProbe.j1 k l L (tour L (rd_T45 L i).f0 (rd_T45 L i).f1 L.length).out (tour L (rd_T45 L i).f0 (rd_T45 L i).f1 L.length).len false (rd_T45 L i).f0 (rd_T45 L i).f1) true :=
    ev_one (f := fun k => laws_FnProbe.l0 k l L (tour L (rd_T45 L i).f0 (rd_T45 L i).f1 L.length).out (tour L (rd_T45 L i).f0 (rd_T45 L i).f1 L.length).len (List.replicate L.length false) 0 0 (rd_T45 L i).f0 (rd_T45 L i).f1) (fun k => by
      simp only [laws_FnProbe.j1, Bool.false_eq_true, if_false, Int.toNat_natCast]
      rw [if_pos (by omega), if_pos (by omega)]) all
  have hlen : (((tour L (rd_T45 L i).f0 (rd_T45 L i).f1 L.length).out.length : Int) != (L.length : Int)) = false := by rw [hw]; simp
  refine ev_one (f := fun k => (spec_PointsOf.f k l).bind fun t => (laws_at.f m 0 (t.length : Int)).bind fun i => (if 0 ≤ i then (if i < (t.length : Int) then ((impl_Probing.f k t ((rd_T45 t i).f0) ((rd_T45 t i).f1)).bind fun p => ((spec_Probing.f k t ((rd_T45 t i).f0) ((rd_T45 t i).f1)).bind fun q => (if p.2.2 = 0 then ((laws_sameInts.f k p.1 q.1).bind fun u => (if u = true then (if p.2.1 = q.2.1 then (laws_FnProbe.j1 k l t p.1 p.2.1 ((p.1.length : Int) != (t.length : Int)) ((rd_T45 t i).f0) ((rd_T45 t i).f1)) else (laws_FnProbe.j1 k l t p.1 p.2.1 true ((rd_T45 t i).f0) ((rd_T45 t i).f1))) else (laws_FnProbe.j1 k l t p.1 p.2.1 true ((rd_T45 t i).f0) ((rd_T45 t i).f1)))) else (laws_FnProbe.j1 k l t p.1 p.2.1 true ((rd_T45 t i).f0) ((rd_T45 t i).f1))))) else (none)) else (none))) (fun k => by simp only [laws_FnProbe.j0, Bool.false_eq_true, if_false]) ?_
  refine Ev.bind hL ?_
  simp only [ei, Option.bind_some]
  rw [show (fun k => if 0 ≤ i then _ else _) = _ from funext fun k => by rw [if_pos i0, if_pos i1]]
  refine Ev.bind ip ?_
  refine Ev.bind sp ?_
  simp only [if_true]
  refine Ev.bind so ?_
  simp only [if_true, hlen]
  exact one
end Go.Proofs.Ythcpdgiinmocaaa.Pure
