/- FnExactNest over numbers and lists alone: the program's Nest and the reference's answer alike at every width and every list of plates. -/
import Derived.Test.YthcpdgiinmocaaaSFnExactNest
import Derived.Test.YthcpdgiinmocaaaLib
namespace Go.Proofs.Ythcpdgiinmocaaa.Pure
open Go.RowKit Go.Proofs.Ythcpdgiinmocaaa.PFnExactNest Go.Proofs.YthcpdgiinmocaaaW.PrintWords Go.Proofs.YthcpdgiinmocaaaW.PrintLast Go.Proofs.Ythcpdgiinmocaaa.Lib
set_option linter.unusedVariables false
set_option linter.unusedSimpArgs false

structure Rc where
  x : Int
  y : Int
  w : Int
  h : Int

def Rc.over (r p : Rc) : Bool := decide (r.x < p.x + p.w ∧ p.x < r.x + r.w ∧ r.y < p.y + p.h ∧ p.y < r.y + r.h)
def Rc.free (r : Rc) (l : List Rc) : Bool := l.all (fun p => !r.over p)
/-- whether a place is no better than the best till now -/
def late (b : Option (Int × Int)) (x y : Int) : Bool :=
  match b with
  | none => false
  | some p => decide (y > p.2 ∨ y = p.2 ∧ x ≥ p.1)
def cand (W : Int) (l : List Rc) (w h y : Int) (b : Option (Int × Int)) (x : Int) : Option (Int × Int) :=
  if decide (x + w > W) || late b x y then b else if Rc.free ⟨x, y, w, h⟩ l then some (x, y) else b
def ysOf (l : List Rc) : List Int := 0 :: l.map (fun p => p.y + p.h)
def xsOf (l : List Rc) : List Int := 0 :: l.map (fun p => p.x + p.w)
def rowOf (W : Int) (l : List Rc) (w h : Int) (xs : List Int) (b : Option (Int × Int)) (y : Int) : Option (Int × Int) := xs.foldl (cand W l w h y) b
def placeOf (W : Int) (l : List Rc) (w h : Int) : Option (Int × Int) := (ysOf l).foldl (rowOf W l w h (xsOf l)) none

/-- a place that is free and in the strip -/
def good (W : Int) (l : List Rc) (w h : Int) (p : Int × Int) : Prop := p.1 ∈ xsOf l ∧ p.2 ∈ ysOf l ∧ p.1 + w ≤ W ∧ Rc.free ⟨p.1, p.2, w, h⟩ l = true

theorem cand_good {W : Int} {l : List Rc} {w h y x : Int} {b : Option (Int × Int)} (hx : x ∈ xsOf l) (hy : y ∈ ysOf l) (hb : ∀ p, b = some p → good W l w h p) : ∀ p, cand W l w h y b x = some p → good W l w h p := by
  intro p hp
  unfold cand at hp
  split at hp
  · exact hb p hp
  · rename_i hc
    split at hp
    · rename_i hf
      simp only [Option.some.injEq] at hp
      subst hp
      simp only [Bool.or_eq_true, decide_eq_true_eq, not_or] at hc
      exact ⟨hx, hy, by have := hc.1; show x + w ≤ W; omega, hf⟩
    · exact hb p hp
theorem row_good {W : Int} {l : List Rc} {w h y : Int} (hy : y ∈ ysOf l) : ∀ (xs : List Int) (b : Option (Int × Int)), (∀ x ∈ xs, x ∈ xsOf l) → (∀ p, b = some p → good W l w h p) → ∀ p, rowOf W l w h xs b y = some p → good W l w h p := by
  intro xs
  induction xs with
  | nil => intro b _ hb p hp; exact hb p hp
  | cons x xs ih =>
    intro b hxs hb p hp
    exact ih (cand W l w h y b x) (fun z hz => hxs z (List.mem_cons_of_mem _ hz)) (cand_good (hxs x (List.mem_cons_self ..)) hy hb) p hp
theorem fold_good {W : Int} {l : List Rc} {w h : Int} : ∀ (ys : List Int) (b : Option (Int × Int)), (∀ y ∈ ys, y ∈ ysOf l) → (∀ p, b = some p → good W l w h p) → ∀ p, ys.foldl (rowOf W l w h (xsOf l)) b = some p → good W l w h p := by
  intro ys
  induction ys with
  | nil => intro b _ hb p hp; exact hb p hp
  | cons y ys ih =>
    intro b hys hb p hp
    exact ih _ (fun z hz => hys z (List.mem_cons_of_mem _ hz)) (row_good (hys y (List.mem_cons_self ..)) _ b (fun _ hz => hz) hb) p hp
theorem place_good {W : Int} {l : List Rc} {w h : Int} {p : Int × Int} (hp : placeOf W l w h = some p) : good W l w h p :=
  fold_good (ysOf l) none (fun _ h => h) (fun _ h => by cases h) p hp
/-- what stays a place stays one -/
theorem cand_some {W : Int} {l : List Rc} {w h y x : Int} {b : Option (Int × Int)} (hb : b.isSome = true) : (cand W l w h y b x).isSome = true := by
  unfold cand
  split
  · exact hb
  · split
    · rfl
    · exact hb
theorem row_some {W : Int} {l : List Rc} {w h y : Int} : ∀ (xs : List Int) (b : Option (Int × Int)), b.isSome = true → (rowOf W l w h xs b y).isSome = true := by
  intro xs
  induction xs with
  | nil => intro b hb; exact hb
  | cons x xs ih => intro b hb; exact ih _ (cand_some hb)
theorem fold_some {W : Int} {l : List Rc} {w h : Int} {xs : List Int} : ∀ (ys : List Int) (b : Option (Int × Int)), b.isSome = true → (ys.foldl (rowOf W l w h xs) b).isSome = true := by
  intro ys
  induction ys with
  | nil => intro b hb; exact hb
  | cons y ys ih => intro b hb; exact ih _ (row_some _ _ hb)
/-- a place that would do is found, or another one -/
theorem cand_hit {W : Int} {l : List Rc} {w h y x : Int} {b : Option (Int × Int)} (hw : x + w ≤ W) (hf : Rc.free ⟨x, y, w, h⟩ l = true) : (cand W l w h y b x).isSome = true := by
  cases b with
  | some p => exact cand_some rfl
  | none => unfold cand; rw [if_neg (by simp [late]; omega), if_pos hf]; rfl
theorem row_hit {W : Int} {l : List Rc} {w h y x : Int} (hw : x + w ≤ W) (hf : Rc.free ⟨x, y, w, h⟩ l = true) : ∀ (xs : List Int) (b : Option (Int × Int)), x ∈ xs → (rowOf W l w h xs b y).isSome = true := by
  intro xs
  induction xs with
  | nil => intro b hx; cases hx
  | cons z xs ih =>
    intro b hx
    rcases List.mem_cons.1 hx with rfl | hx
    · exact row_some xs _ (cand_hit hw hf)
    · exact ih _ hx
theorem fold_hit {W : Int} {l : List Rc} {w h y x : Int} (hw : x + w ≤ W) (hf : Rc.free ⟨x, y, w, h⟩ l = true) {xs : List Int} (hx : x ∈ xs) : ∀ (ys : List Int) (b : Option (Int × Int)), y ∈ ys → (ys.foldl (rowOf W l w h xs) b).isSome = true := by
  intro ys
  induction ys with
  | nil => intro b hx; cases hx
  | cons z ys ih =>
    intro b hy
    rcases List.mem_cons.1 hy with rfl | hy
    · exact fold_some ys _ (row_hit hw hf xs b hx)
    · exact ih _ hy
theorem top_of (l : List Rc) : ∃ y ∈ ysOf l, ∀ p ∈ l, p.y + p.h ≤ y := by
  induction l with
  | nil => exact ⟨0, List.mem_cons_self .., fun p hp => by cases hp⟩
  | cons q l ih =>
    obtain ⟨y, hy, ht⟩ := ih
    have hmem : ∀ z, z ∈ ysOf l → z ∈ ysOf (q :: l) := by
      intro z hz
      unfold ysOf at hz ⊢
      simp only [List.map_cons, List.mem_cons] at hz ⊢
      rcases hz with h | h
      · exact Or.inl h
      · exact Or.inr (Or.inr h)
    by_cases h : q.y + q.h ≤ y
    · refine ⟨y, hmem y hy, fun p hp => ?_⟩
      rcases List.mem_cons.1 hp with rfl | hp
      · exact h
      · exact ht p hp
    · refine ⟨q.y + q.h, by unfold ysOf; simp, fun p hp => ?_⟩
      rcases List.mem_cons.1 hp with rfl | hp
      · omega
      · have := ht p hp; omega
theorem place_some {W : Int} {l : List Rc} {w h : Int} (hw : w ≤ W) : (placeOf W l w h).isSome = true := by
  obtain ⟨y, hy, ht⟩ := top_of l
  refine fold_hit (x := 0) (y := y) (by omega) ?_ (by unfold xsOf; simp) _ _ hy
  unfold Rc.free
  rw [List.all_eq_true]
  intro p hp
  have := ht p hp
  simp only [Rc.over, Bool.not_eq_true', decide_eq_false_iff_not]
  intro hc
  have := hc.2.2.1
  omega

abbrev SR := S146
abbrev IR := S111
abbrev PL := S86
abbrev SP := S114
abbrev toS (r : Rc) : SR := ⟨r.x, r.y, r.w, r.h⟩
abbrev toI (r : Rc) : IR := ⟨r.x, r.y, r.w, r.h⟩
def okR (p : Rc) : Prop := 0 ≤ p.x ∧ 1 ≤ p.w ∧ 1 ≤ p.h ∧ 0 ≤ p.y ∧ p.x + p.w ≤ 1000 ∧ p.y + p.h ≤ 1000000
theorem rdS (l : List Rc) (i : Nat) (h : i < l.length) : rd_T146 (l.map toS) (i : Int) = toS l[i] := by
  unfold rd_T146; simp [h]
theorem rdI (l : List Rc) (i : Nat) (h : i < l.length) : rd_T111 (l.map toI) (i : Int) = toI l[i] := by
  unfold rd_T111; simp [h]
theorem rdP (l : List PL) (i : Nat) (h : i < l.length) : rd_T86 l (i : Int) = l[i] := by
  unfold rd_T86; simp [h]
/-- the best till now, as the reference's cells hold it, and as the program's -/
def encS (w h : Int) : Option (Int × Int) → Int × Int × Int × Int
  | none => (0, -1, 0, 0)
  | some p => (p.1, p.2, w, h)
def encI (w h : Int) : Option (Int × Int) → Int × Int × Int × Int
  | none => (-1, 0, 0, 0)
  | some p => (p.1, p.2, w, h)
theorem ysOf_bd {l : List Rc} (hl : ∀ p ∈ l, okR p) : ∀ y ∈ ysOf l, 0 ≤ y ∧ y ≤ 1000000 := by
  intro y hy
  unfold ysOf at hy
  rcases List.mem_cons.1 hy with rfl | hy
  · omega
  · obtain ⟨p, hp, rfl⟩ := List.mem_map.1 hy
    obtain ⟨h1, h2, h3, h4, h5, h6⟩ := hl p hp
    constructor
    · show 0 ≤ p.y + p.h; omega
    · exact h6
theorem xsOf_bd {l : List Rc} (hl : ∀ p ∈ l, okR p) : ∀ y ∈ xsOf l, 0 ≤ y ∧ y ≤ 1000 := by
  intro y hy
  unfold xsOf at hy
  rcases List.mem_cons.1 hy with rfl | hy
  · omega
  · obtain ⟨p, hp, rfl⟩ := List.mem_map.1 hy
    obtain ⟨h1, h2, h3, h4, h5, h6⟩ := hl p hp
    constructor
    · show 0 ≤ p.x + p.w; omega
    · exact h5
theorem over_eq (r p : Rc) (hr : 0 ≤ r.x ∧ 1 ≤ r.w ∧ r.w ≤ 1000 ∧ r.x ≤ 1000 ∧ 0 ≤ r.y ∧ r.y ≤ 1000000 ∧ 1 ≤ r.h ∧ r.h ≤ 1000) (hp : okR p) : spec_l16Over.f r.x r.y r.w r.h p.x p.y p.w p.h = some (r.over p) := by
  obtain ⟨h1, h2, h3, h4, h5, h6⟩ := hp
  unfold spec_l16Over.f Rc.over
  rw [wr (by omega) (by omega), wr (by omega) (by omega), wr (by omega) (by omega), wr (by omega) (by omega)]
  by_cases c1 : r.x < p.x + p.w
  · rw [if_pos c1]
    by_cases c2 : p.x < r.x + r.w
    · rw [if_pos c2]
      by_cases c3 : r.y < p.y + p.h
      · rw [if_pos c3]; simp [c1, c2, c3]
      · rw [if_neg c3]; simp [c3]
    · rw [if_neg c2]; simp [c2]
  · rw [if_neg c1]; simp [c1]
theorem free_cons (r p : Rc) (l : List Rc) : r.free (p :: l) = (!r.over p && r.free l) := by unfold Rc.free; rfl
set_option linter.unusedSectionVars false
section place
variable (W : Int) (l : List Rc) (w h : Int) (hW : W ≤ 1000) (hl : ∀ p ∈ l, okR p) (hn : l.length ≤ 1000) (hw : 1 ≤ w ∧ w ≤ 1000) (hh : 1 ≤ h ∧ h ≤ 1000)
include hW hl hn hw hh
/-- the reference: whether a rectangle is free -/
theorem s_free {ys xs : List Int} {i j : Nat} {b0 b1 b2 b3 : Int} {r : Rc} (hr : 0 ≤ r.x ∧ 1 ≤ r.w ∧ r.w ≤ 1000 ∧ r.x ≤ 1000 ∧ 0 ≤ r.y ∧ r.y ≤ 1000000 ∧ 1 ≤ r.h ∧ r.h ≤ 1000) {q : Int × Int × Int × Int} (hj : j < 2000)
    (hq : Ev (fun k => if r.free l then spec_l16Place.l2 k W (l.map toS) w h ys xs i ((j + 1 : Nat) : Int) r.x r.y r.w r.h else spec_l16Place.l2 k W (l.map toS) w h ys xs i ((j + 1 : Nat) : Int) b0 b1 b2 b3) q) :
    Ev (fun k => spec_l16Place.l3 k W (l.map toS) w h ys xs i j true 0 b0 b1 b2 b3 r.x r.y r.w r.h) q := by
  have key : ∀ (m a : Nat), a + m = l.length → Ev (fun k => if r.free (l.drop a) then spec_l16Place.l2 k W (l.map toS) w h ys xs i ((j + 1 : Nat) : Int) r.x r.y r.w r.h else spec_l16Place.l2 k W (l.map toS) w h ys xs i ((j + 1 : Nat) : Int) b0 b1 b2 b3) q →
      Ev (fun k => spec_l16Place.l3 k W (l.map toS) w h ys xs i j true (a : Int) b0 b1 b2 b3 r.x r.y r.w r.h) q := by
    intro m
    induction m with
    | zero =>
      intro a ha hq
      obtain rfl : a = l.length := by omega
      rw [List.drop_length] at hq
      refine ev_one (fun k => ?_) hq
      simp only [spec_l16Place.l3, List.length_map]
      rw [if_neg (by omega), if_pos trivial, wr_succ j (by omega)]
      rfl
    | succ m ih =>
      intro a ha hq
      have hd : l.drop a = l[a]'(by omega) :: l.drop (a + 1) := List.drop_eq_getElem_cons (by omega)
      have hmem : l[a]'(by omega) ∈ l := List.getElem_mem _
      rw [hd] at hq
      simp only [free_cons] at hq
      have ho := over_eq r (l[a]'(by omega)) hr (hl _ hmem)
      cases hv : r.over (l[a]'(by omega)) with
      | false =>
        simp only [hv, Bool.not_false, Bool.true_and] at hq
        refine ev_one (fun k => ?_) (ih (a + 1) (by omega) hq)
        simp only [spec_l16Place.l3, List.length_map]
        rw [if_pos (by omega), if_pos trivial, if_pos (by omega), rdS l a (by omega)]
        simp only [toS, ho, hv, Option.bind_some, Bool.not_false]
        rw [wr_succ a (by omega)]
      | true =>
        simp only [hv, Bool.not_true, Bool.false_and, Bool.false_eq_true, if_false] at hq
        refine ev_one (f := fun k => spec_l16Place.l3 k W (l.map toS) w h ys xs i j false ((a + 1 : Nat) : Int) b0 b1 b2 b3 r.x r.y r.w r.h) (fun k => ?_) ?_
        · simp only [spec_l16Place.l3, List.length_map]
          rw [if_pos (by omega), if_pos trivial, if_pos (by omega), rdS l a (by omega)]
          simp only [toS, ho, hv, Option.bind_some, Bool.not_true]
          rw [wr_succ a (by omega)]
        · refine ev_one (fun k => ?_) hq
          simp only [spec_l16Place.l3, List.length_map, Bool.false_eq_true, if_false]
          rw [wr_succ j (by omega)]
          split <;> rfl
  exact key l.length 0 (by omega) (by rw [List.drop_zero]; exact hq)
theorem s_row {ys : List Int} (hy : ∀ y ∈ ys, 0 ≤ y ∧ y ≤ 1000000) {xs : List Int} (hx : ∀ x ∈ xs, 0 ≤ x ∧ x ≤ 1000) (hxn : xs.length ≤ 1001) (i : Nat) (hi : i < ys.length) (hi' : i < 2000) {q : Int × Int × Int × Int} : ∀ (m j : Nat) (b : Option (Int × Int)), j + m = xs.length → (∀ p, b = some p → 0 ≤ p.1 ∧ 0 ≤ p.2) →
    (∀ b', (∀ p, b' = some p → 0 ≤ p.1 ∧ 0 ≤ p.2) → b' = (xs.drop j).foldl (cand W l w h ys[i]) b → Ev (fun k => spec_l16Place.l1 k W (l.map toS) w h ys xs ((i + 1 : Nat) : Int) (encS w h b').1 (encS w h b').2.1 (encS w h b').2.2.1 (encS w h b').2.2.2) q) →
    Ev (fun k => spec_l16Place.l2 k W (l.map toS) w h ys xs (i : Int) (j : Int) (encS w h b).1 (encS w h b).2.1 (encS w h b).2.2.1 (encS w h b).2.2.2) q := by
  intro m
  induction m with
  | zero =>
    intro j b hj hb hq
    obtain rfl : j = xs.length := by omega
    refine ev_one (fun k => ?_) (hq b hb (by rw [List.drop_length]; rfl))
    simp only [spec_l16Place.l2]
    rw [if_neg (by omega), wr_succ i (by omega)]
  | succ m ih =>
    intro j b hj hb hq
    have hyi := hy _ (List.getElem_mem hi)
    have hxj := hx _ (List.getElem_mem (show j < xs.length by omega))
    have hd : xs.drop j = xs[j]'(by omega) :: xs.drop (j + 1) := List.drop_eq_getElem_cons (by omega)
    have hb1 : ∀ p, cand W l w h ys[i] b (xs[j]'(by omega)) = some p → 0 ≤ p.1 ∧ 0 ≤ p.2 := by
      intro p hp
      unfold cand at hp
      split at hp
      · exact hb p hp
      · split at hp
        · simp only [Option.some.injEq] at hp; subst hp; exact ⟨hxj.1, hyi.1⟩
        · exact hb p hp
    have next := ih (j + 1) (cand W l w h ys[i] b (xs[j]'(by omega))) (by omega) hb1 (fun b' h1 h2 => hq b' h1 (by rw [h2, hd]; rfl))
    -- a round that leaves the best as it is
    have skip : cand W l w h ys[i] b (xs[j]'(by omega)) = b → Ev (fun k => spec_l16Place.l2 k W (l.map toS) w h ys xs (i : Int) ((j + 1 : Nat) : Int) (encS w h b).1 (encS w h b).2.1 (encS w h b).2.2.1 (encS w h b).2.2.2) q := fun e => by rw [e] at next; exact next
    have fin : (decide (xs[j]'(by omega) + w > W) || late b (xs[j]'(by omega)) ys[i]) = true → Ev (fun k => spec_l16Place.j3 k W (l.map toS) w h ys xs (i : Int) (j : Int) true (encS w h b).1 (encS w h b).2.1 (encS w h b).2.2.1 (encS w h b).2.2.2 (xs[j]'(by omega)) ys[i] w h) q := fun e => by
      refine ev_one (fun k => ?_) (skip (by unfold cand; rw [if_pos e]))
      simp only [spec_l16Place.j3, if_true]
      rw [wr_succ j (by omega)]
    have go : (decide (xs[j]'(by omega) + w > W) || late b (xs[j]'(by omega)) ys[i]) = false → Ev (fun k => spec_l16Place.j3 k W (l.map toS) w h ys xs (i : Int) (j : Int) false (encS w h b).1 (encS w h b).2.1 (encS w h b).2.2.1 (encS w h b).2.2.2 (xs[j]'(by omega)) ys[i] w h) q := fun e => by
      refine ev_one (f := fun k => spec_l16Place.l3 k W (l.map toS) w h ys xs (i : Int) (j : Int) true 0 (encS w h b).1 (encS w h b).2.1 (encS w h b).2.2.1 (encS w h b).2.2.2 (xs[j]'(by omega)) ys[i] w h) (fun k => ?_) ?_
      · simp only [spec_l16Place.j3, Bool.false_eq_true, if_false]
      · refine s_free W l w h hW hl hn hw hh (r := ⟨xs[j]'(by omega), ys[i], w, h⟩) ⟨hxj.1, hw.1, hw.2, hxj.2, hyi.1, hyi.2, hh.1, hh.2⟩ (by omega) ?_
        have ec : cand W l w h ys[i] b (xs[j]'(by omega)) = if Rc.free ⟨xs[j]'(by omega), ys[i], w, h⟩ l then some (xs[j]'(by omega), ys[i]) else b := by
          unfold cand; rw [if_neg (by rw [e]; exact Bool.false_ne_true)]
        rw [ec] at next
        by_cases hf : Rc.free ⟨xs[j]'(by omega), ys[i], w, h⟩ l = true
        · simp only [hf, if_true] at next ⊢; exact next
        · simp only [hf, if_false] at next ⊢; exact next
    have red : ∀ k, spec_l16Place.l2 (k + 1) W (l.map toS) w h ys xs (i : Int) (j : Int) (encS w h b).1 (encS w h b).2.1 (encS w h b).2.2.1 (encS w h b).2.2.2 = spec_l16Place.j3 k W (l.map toS) w h ys xs (i : Int) (j : Int) (decide (xs[j]'(by omega) + w > W) || late b (xs[j]'(by omega)) ys[i]) (encS w h b).1 (encS w h b).2.1 (encS w h b).2.2.1 (encS w h b).2.2.2 (xs[j]'(by omega)) ys[i] w h := by
      intro k
      simp only [spec_l16Place.l2]
      rw [if_pos (by omega), if_pos (by omega), if_pos (by omega), if_pos (by omega), rd_lt xs j (by omega), rd_lt ys i hi, wr (by omega) (by omega)]
      by_cases c1 : xs[j]'(by omega) + w > W
      · rw [if_pos c1]; simp [c1]
      · rw [if_neg c1]
        cases b with
        | none => simp [encS, late, c1]
        | some p =>
          have hp := hb p rfl
          by_cases c2 : ys[i] > p.2
          · simp [encS, late, hp.2, c2]
          · by_cases c3 : ys[i] = p.2
            · simp [encS, late, hp.2, c1, c3]
            · simp [encS, late, hp.2, c1, c2, c3]
    refine ev_one red ?_
    cases e : (decide (xs[j]'(by omega) + w > W) || late b (xs[j]'(by omega)) ys[i]) with
    | true => exact fin e
    | false => exact go e
theorem s_rows {ys : List Int} (hy : ∀ y ∈ ys, 0 ≤ y ∧ y ≤ 1000000) (hyn : ys.length ≤ 1001) {xs : List Int} (hx : ∀ x ∈ xs, 0 ≤ x ∧ x ≤ 1000) (hxn : xs.length ≤ 1001) : ∀ (m i : Nat) (b : Option (Int × Int)), i + m = ys.length → (∀ p, b = some p → 0 ≤ p.1 ∧ 0 ≤ p.2) →
    Ev (fun k => spec_l16Place.l1 k W (l.map toS) w h ys xs (i : Int) (encS w h b).1 (encS w h b).2.1 (encS w h b).2.2.1 (encS w h b).2.2.2) (encS w h ((ys.drop i).foldl (rowOf W l w h xs) b)) := by
  intro m
  induction m with
  | zero =>
    intro i b hi hb
    obtain rfl : i = ys.length := by omega
    rw [List.drop_length]
    refine ev_some fun k => ?_
    simp only [spec_l16Place.l1]
    rw [if_neg (by omega)]; rfl
  | succ m ih =>
    intro i b hi hb
    have hd : ys.drop i = ys[i]'(by omega) :: ys.drop (i + 1) := List.drop_eq_getElem_cons (by omega)
    refine ev_one (f := fun k => spec_l16Place.l2 k W (l.map toS) w h ys xs (i : Int) 0 (encS w h b).1 (encS w h b).2.1 (encS w h b).2.2.1 (encS w h b).2.2.2) (fun k => ?_) ?_
    · simp only [spec_l16Place.l1]
      rw [if_pos (by omega)]
    · refine s_row W l w h hW hl hn hw hh hy hx hxn i (by omega) (by omega) xs.length 0 b (by omega) hb fun b' h1 h2 => ?_
      rw [hd]
      have := ih (i + 1) b' (by omega) h1
      rw [List.drop_zero] at h2
      rw [h2] at this ⊢
      exact this
theorem spec_place : Ev (fun k => spec_l16Place.f k W (l.map toS) w h) (encS w h (placeOf W l w h)) := by
  unfold spec_l16Place.f
  have := ev_run0 (r := encS w h (placeOf W l w h)) (fun i k => spec_l16Place.l0 k W (l.map toS) w h (ysOf (l.take i)) (xsOf (l.take i)) (i : Int)) l.length (fun i hi k => by
    show spec_l16Place.l0 (k + 1) W (l.map toS) w h (ysOf (l.take i)) (xsOf (l.take i)) (i : Int) = spec_l16Place.l0 k W (l.map toS) w h (ysOf (l.take (i + 1))) (xsOf (l.take (i + 1))) ((i + 1 : Nat) : Int)
    simp only [spec_l16Place.l0, List.length_map]
    have hp := hl _ (List.getElem_mem hi)
    obtain ⟨h1, h2, h3, h4, h5, h6⟩ := hp
    rw [if_pos (by omega), if_pos (by omega), if_pos (by simp [ysOf]; omega), if_pos (by simp [xsOf]; omega), rdS l i hi]
    simp only [toS]
    rw [wr (by omega) (by omega), wr (by omega) (by omega), wr_succ i (by omega)]
    have e1 : ysOf (l.take (i + 1)) = ysOf (l.take i) ++ [l[i].y + l[i].h] := by unfold ysOf; rw [List.take_succ_eq_append_getElem hi]; simp only [List.map_append, List.map_cons, List.map_nil, List.cons_append]
    have e2 : xsOf (l.take (i + 1)) = xsOf (l.take i) ++ [l[i].x + l[i].w] := by unfold xsOf; rw [List.take_succ_eq_append_getElem hi]; simp only [List.map_append, List.map_cons, List.map_nil, List.cons_append]
    rw [e1, e2]) (by
    show Ev (fun k => spec_l16Place.l0 k W (l.map toS) w h (ysOf (l.take l.length)) (xsOf (l.take l.length)) (l.length : Int)) _
    rw [List.take_length]
    have hr := s_rows W l w h hW hl hn hw hh (ysOf_bd hl) (by simp [ysOf]; omega) (xsOf_bd hl) (by simp [xsOf]; omega) (ysOf l).length 0 none (by omega) (fun p hp => by cases hp)
    refine ev_one (fun k => ?_) hr
    simp only [spec_l16Place.l0, List.length_map]
    rw [if_neg (by omega)]; rfl)
  exact this
/-- the program: whether a rectangle is free -/
theorem i_free {xs0 xs ys : List Int} {nx ny : Int} {i : Int} {j : Nat} {b0 b1 b2 b3 x y : Int} (hr : 0 ≤ x ∧ x ≤ 1000 ∧ 0 ≤ y ∧ y ≤ 1000000) {q : Int × Int × Int × Int} (hj : j < 2000)
    (hq : Ev (fun k => if Rc.free ⟨x, y, w, h⟩ l then impl_lay.l2 k W (l.map toI) w h xs0 y ys ny i xs nx ((j + 1 : Nat) : Int) x y w h else impl_lay.l2 k W (l.map toI) w h xs0 y ys ny i xs nx ((j + 1 : Nat) : Int) b0 b1 b2 b3) q) :
    Ev (fun k => impl_lay.l3 k W (l.map toI) w h xs0 y x true ys ny i xs nx j (l.map toI) ((l.map toI).length : Int) 0 b0 b1 b2 b3) q := by
  have key : ∀ (m a : Nat), a + m = l.length → Ev (fun k => if Rc.free ⟨x, y, w, h⟩ (l.drop a) then impl_lay.l2 k W (l.map toI) w h xs0 y ys ny i xs nx ((j + 1 : Nat) : Int) x y w h else impl_lay.l2 k W (l.map toI) w h xs0 y ys ny i xs nx ((j + 1 : Nat) : Int) b0 b1 b2 b3) q →
      Ev (fun k => impl_lay.l3 k W (l.map toI) w h xs0 y x true ys ny i xs nx j (l.map toI) ((l.map toI).length : Int) (a : Int) b0 b1 b2 b3) q := by
    intro m
    induction m with
    | zero =>
      intro a ha hq
      obtain rfl : a = l.length := by omega
      rw [List.drop_length] at hq
      refine ev_one (fun k => ?_) hq
      simp only [impl_lay.l3, List.length_map]
      rw [if_neg (by omega), if_pos trivial, wr_succ j (by omega)]
      rfl
    | succ m ih =>
      intro a ha hq
      have hd : l.drop a = l[a]'(by omega) :: l.drop (a + 1) := List.drop_eq_getElem_cons (by omega)
      have hmem : l[a]'(by omega) ∈ l := List.getElem_mem _
      rw [hd] at hq
      simp only [free_cons] at hq
      obtain ⟨h1, h2, h3, h4, h5, h6⟩ := hl _ hmem
      have red : ∀ k, impl_lay.l3 (k + 1) W (l.map toI) w h xs0 y x true ys ny i xs nx j (l.map toI) ((l.map toI).length : Int) (a : Int) b0 b1 b2 b3 = if Rc.over ⟨x, y, w, h⟩ (l[a]'(by omega)) = true then impl_lay.l2 k W (l.map toI) w h xs0 y ys ny i xs nx ((j + 1 : Nat) : Int) b0 b1 b2 b3 else impl_lay.l3 k W (l.map toI) w h xs0 y x true ys ny i xs nx j (l.map toI) ((l.map toI).length : Int) ((a + 1 : Nat) : Int) b0 b1 b2 b3 := by
        intro k
        simp only [impl_lay.l3, List.length_map]
        rw [if_pos (by omega), if_pos (by omega), if_pos (by omega), rdI l a (by omega)]
        simp only [toI]
        rw [wr (n := (l[a]'(by omega)).x + (l[a]'(by omega)).w) (by omega) (by omega), wr (n := x + w) (by omega) (by omega), wr (n := (l[a]'(by omega)).y + (l[a]'(by omega)).h) (by omega) (by omega), wr (n := y + h) (by omega) (by omega), wr_succ a (by omega), wr_succ j (by omega)]
        by_cases c1 : x < (l[a]'(by omega)).x + (l[a]'(by omega)).w
        · rw [if_pos c1]
          by_cases c2 : (l[a]'(by omega)).x < x + w
          · rw [if_pos c2]
            by_cases c3 : y < (l[a]'(by omega)).y + (l[a]'(by omega)).h
            · rw [if_pos c3]
              by_cases c4 : (l[a]'(by omega)).y < y + h
              · rw [if_pos c4, if_pos (by simp [Rc.over, c1, c2, c3, c4])]
              · rw [if_neg c4, if_neg (by simp [Rc.over, c4])]
            · rw [if_neg c3, if_neg (by simp [Rc.over, c3])]
          · rw [if_neg c2, if_neg (by simp [Rc.over, c2])]
        · rw [if_neg c1, if_neg (by simp [Rc.over, c1])]
      cases hv : Rc.over ⟨x, y, w, h⟩ (l[a]'(by omega)) with
      | false =>
        simp only [hv, Bool.not_false, Bool.true_and] at hq
        refine ev_one (fun k => ?_) (ih (a + 1) (by omega) hq)
        rw [red, hv, if_neg Bool.false_ne_true]
      | true =>
        simp only [hv, Bool.not_true, Bool.false_and, Bool.false_eq_true, if_false] at hq
        refine ev_one (fun k => ?_) hq
        rw [red, hv, if_pos rfl]
  exact key l.length 0 (by omega) (by rw [List.drop_zero]; exact hq)
theorem i_row {y : Int} (hyi : 0 ≤ y ∧ y ≤ 1000000) {ys : List Int} {ny : Int} {xs : List Int} (hx : ∀ x ∈ xs, 0 ≤ x ∧ x ≤ 1000) (hxn : xs.length ≤ 1001) (i : Nat) (hi' : i < 2000) {q : Int × Int × Int × Int} : ∀ (m j : Nat) (b : Option (Int × Int)), j + m = xs.length → (∀ p, b = some p → 0 ≤ p.1 ∧ 0 ≤ p.2) →
    (∀ b', (∀ p, b' = some p → 0 ≤ p.1 ∧ 0 ≤ p.2) → b' = (xs.drop j).foldl (cand W l w h y) b → Ev (fun k => impl_lay.l1 k W (l.map toI) w h xs ys ny ((i + 1 : Nat) : Int) (encI w h b').1 (encI w h b').2.1 (encI w h b').2.2.1 (encI w h b').2.2.2) q) →
    Ev (fun k => impl_lay.l2 k W (l.map toI) w h xs y ys ny (i : Int) xs (xs.length : Int) (j : Int) (encI w h b).1 (encI w h b).2.1 (encI w h b).2.2.1 (encI w h b).2.2.2) q := by
  intro m
  induction m with
  | zero =>
    intro j b hj hb hq
    obtain rfl : j = xs.length := by omega
    refine ev_one (fun k => ?_) (hq b hb (by rw [List.drop_length]; rfl))
    simp only [impl_lay.l2]
    rw [if_neg (by omega), wr_succ i (by omega)]
  | succ m ih =>
    intro j b hj hb hq
    have hxj := hx _ (List.getElem_mem (show j < xs.length by omega))
    have hd : xs.drop j = xs[j]'(by omega) :: xs.drop (j + 1) := List.drop_eq_getElem_cons (by omega)
    have hb1 : ∀ p, cand W l w h y b (xs[j]'(by omega)) = some p → 0 ≤ p.1 ∧ 0 ≤ p.2 := by
      intro p hp
      unfold cand at hp
      split at hp
      · exact hb p hp
      · split at hp
        · simp only [Option.some.injEq] at hp; subst hp; exact ⟨hxj.1, hyi.1⟩
        · exact hb p hp
    have next := ih (j + 1) (cand W l w h y b (xs[j]'(by omega))) (by omega) hb1 (fun b' h1 h2 => hq b' h1 (by rw [h2, hd]; rfl))
    have skip : cand W l w h y b (xs[j]'(by omega)) = b → Ev (fun k => impl_lay.l2 k W (l.map toI) w h xs y ys ny (i : Int) xs (xs.length : Int) ((j + 1 : Nat) : Int) (encI w h b).1 (encI w h b).2.1 (encI w h b).2.2.1 (encI w h b).2.2.2) q := fun e => by rw [e] at next; exact next
    have fin : (decide (xs[j]'(by omega) + w > W) || late b (xs[j]'(by omega)) y) = true → Ev (fun k => impl_lay.j3 k W (l.map toI) w h xs y (xs[j]'(by omega)) ys ny (i : Int) xs (xs.length : Int) (j : Int) true (encI w h b).1 (encI w h b).2.1 (encI w h b).2.2.1 (encI w h b).2.2.2) q := fun e => by
      refine ev_one (fun k => ?_) (skip (by unfold cand; rw [if_pos e]))
      simp only [impl_lay.j3, if_true]
      rw [wr_succ j (by omega)]
    have go : (decide (xs[j]'(by omega) + w > W) || late b (xs[j]'(by omega)) y) = false → Ev (fun k => impl_lay.j3 k W (l.map toI) w h xs y (xs[j]'(by omega)) ys ny (i : Int) xs (xs.length : Int) (j : Int) false (encI w h b).1 (encI w h b).2.1 (encI w h b).2.2.1 (encI w h b).2.2.2) q := fun e => by
      refine ev_one (f := fun k => impl_lay.l3 k W (l.map toI) w h xs y (xs[j]'(by omega)) true ys ny (i : Int) xs (xs.length : Int) (j : Int) (l.map toI) ((l.map toI).length : Int) 0 (encI w h b).1 (encI w h b).2.1 (encI w h b).2.2.1 (encI w h b).2.2.2) (fun k => ?_) ?_
      · simp only [impl_lay.j3, Bool.false_eq_true, if_false]
      · refine i_free W l w h hW hl hn hw hh ⟨hxj.1, hxj.2, hyi.1, hyi.2⟩ (by omega) ?_
        have ec : cand W l w h y b (xs[j]'(by omega)) = if Rc.free ⟨xs[j]'(by omega), y, w, h⟩ l then some (xs[j]'(by omega), y) else b := by
          unfold cand; rw [if_neg (by rw [e]; exact Bool.false_ne_true)]
        rw [ec] at next
        by_cases hf : Rc.free ⟨xs[j]'(by omega), y, w, h⟩ l = true
        · simp only [hf, if_true] at next ⊢; exact next
        · simp only [hf, if_false] at next ⊢; exact next
    have red : ∀ k, impl_lay.l2 (k + 1) W (l.map toI) w h xs y ys ny (i : Int) xs (xs.length : Int) (j : Int) (encI w h b).1 (encI w h b).2.1 (encI w h b).2.2.1 (encI w h b).2.2.2 = impl_lay.j3 k W (l.map toI) w h xs y (xs[j]'(by omega)) ys ny (i : Int) xs (xs.length : Int) (j : Int) (decide (xs[j]'(by omega) + w > W) || late b (xs[j]'(by omega)) y) (encI w h b).1 (encI w h b).2.1 (encI w h b).2.2.1 (encI w h b).2.2.2 := by
      intro k
      simp only [impl_lay.l2]
      rw [if_pos (by omega), if_pos (by omega), if_pos (by omega), rd_lt xs j (by omega), wr (by omega) (by omega)]
      cases b with
      | none => simp [encI, late]
      | some p =>
        have hp := hb p rfl
        by_cases c2 : y > p.2
        · simp [encI, late, hp.1, c2]
        · by_cases c3 : y = p.2
          · by_cases c4 : xs[j]'(by omega) ≥ p.1
            · simp [encI, late, hp.1, c3, c4]
            · simp [encI, late, hp.1, c3, c4]
          · simp [encI, late, hp.1, c2, c3]
    refine ev_one red ?_
    cases e : (decide (xs[j]'(by omega) + w > W) || late b (xs[j]'(by omega)) y) with
    | true => exact fin e
    | false => exact go e
theorem i_rows {ys : List Int} (hy : ∀ y ∈ ys, 0 ≤ y ∧ y ≤ 1000000) (hyn : ys.length ≤ 1001) {xs : List Int} (hx : ∀ x ∈ xs, 0 ≤ x ∧ x ≤ 1000) (hxn : xs.length ≤ 1001) : ∀ (m i : Nat) (b : Option (Int × Int)), i + m = ys.length → (∀ p, b = some p → 0 ≤ p.1 ∧ 0 ≤ p.2) →
    Ev (fun k => impl_lay.l1 k W (l.map toI) w h xs ys (ys.length : Int) (i : Int) (encI w h b).1 (encI w h b).2.1 (encI w h b).2.2.1 (encI w h b).2.2.2) (encI w h ((ys.drop i).foldl (rowOf W l w h xs) b)) := by
  intro m
  induction m with
  | zero =>
    intro i b hi hb
    obtain rfl : i = ys.length := by omega
    rw [List.drop_length]
    refine ev_some fun k => ?_
    simp only [impl_lay.l1]
    rw [if_neg (by omega)]; rfl
  | succ m ih =>
    intro i b hi hb
    have hd : ys.drop i = ys[i]'(by omega) :: ys.drop (i + 1) := List.drop_eq_getElem_cons (by omega)
    refine ev_one (f := fun k => impl_lay.l2 k W (l.map toI) w h xs (ys[i]'(by omega)) ys (ys.length : Int) (i : Int) xs (xs.length : Int) 0 (encI w h b).1 (encI w h b).2.1 (encI w h b).2.2.1 (encI w h b).2.2.2) (fun k => ?_) ?_
    · simp only [impl_lay.l1]
      rw [if_pos (by omega), if_pos (by omega), if_pos (by omega), rd_lt ys i (by omega)]
    · refine i_row W l w h hW hl hn hw hh (hy _ (List.getElem_mem (by omega))) hx hxn i (by omega) xs.length 0 b (by omega) hb fun b' h1 h2 => ?_
      rw [hd]
      have := ih (i + 1) b' (by omega) h1
      rw [List.drop_zero] at h2
      rw [h2] at this ⊢
      exact this
theorem impl_place : Ev (fun k => impl_lay.f k W (l.map toI) w h) (encI w h (placeOf W l w h)) := by
  unfold impl_lay.f
  have := ev_run0 (r := encI w h (placeOf W l w h)) (fun i k => impl_lay.l0 k W (l.map toI) w h (ysOf (l.take i)) (xsOf (l.take i)) (l.map toI) ((l.map toI).length : Int) (i : Int)) l.length (fun i hi k => by
    show impl_lay.l0 (k + 1) W (l.map toI) w h (ysOf (l.take i)) (xsOf (l.take i)) (l.map toI) ((l.map toI).length : Int) (i : Int) = impl_lay.l0 k W (l.map toI) w h (ysOf (l.take (i + 1))) (xsOf (l.take (i + 1))) (l.map toI) ((l.map toI).length : Int) ((i + 1 : Nat) : Int)
    simp only [impl_lay.l0, List.length_map]
    have hp := hl _ (List.getElem_mem hi)
    obtain ⟨h1, h2, h3, h4, h5, h6⟩ := hp
    rw [if_pos (by omega), if_pos (by omega), if_pos (by omega), if_pos (by simp [ysOf]; omega), if_pos (by simp [xsOf]; omega), rdI l i hi]
    simp only [toI]
    rw [wr (by omega) (by omega), wr (by omega) (by omega), wr_succ i (by omega)]
    have e1 : ysOf (l.take (i + 1)) = ysOf (l.take i) ++ [l[i].y + l[i].h] := by unfold ysOf; rw [List.take_succ_eq_append_getElem hi]; simp only [List.map_append, List.map_cons, List.map_nil, List.cons_append]
    have e2 : xsOf (l.take (i + 1)) = xsOf (l.take i) ++ [l[i].x + l[i].w] := by unfold xsOf; rw [List.take_succ_eq_append_getElem hi]; simp only [List.map_append, List.map_cons, List.map_nil, List.cons_append]
    rw [e1, e2]) (by
    show Ev (fun k => impl_lay.l0 k W (l.map toI) w h (ysOf (l.take l.length)) (xsOf (l.take l.length)) (l.map toI) ((l.map toI).length : Int) (l.length : Int)) _
    rw [List.take_length]
    have hr := i_rows W l w h hW hl hn hw hh (ysOf_bd hl) (by simp [ysOf]; omega) (xsOf_bd hl) (by simp [xsOf]; omega) (ysOf l).length 0 none (by omega) (fun p hp => by cases hp)
    refine ev_one (fun k => ?_) hr
    simp only [impl_lay.l0, List.length_map]
    rw [if_neg (by omega)]; rfl)
  exact this
end place

/-- What lies on the strip behind some plates: each an item (its number, its width and height as it is laid, whether it is turned). -/
def nestR (W : Int) : List (Int × Int × Int × Bool) → List Rc → List SP → Int → List SP × Int
  | [], _, out, high => (out, high)
  | p :: ps, lie, out, high =>
    match placeOf W lie p.2.1 p.2.2.1 with
    | some q => nestR W ps (lie ++ [⟨q.1, q.2, p.2.1, p.2.2.1⟩]) (out ++ [⟨p.1, q.1, q.2, p.2.2.2⟩]) (max high (q.2 + p.2.2.1))
    | none => (out, high)
def okI (W : Int) (p : Int × Int × Int × Bool) : Prop := 1 ≤ p.2.1 ∧ p.2.1 ≤ W ∧ 1 ≤ p.2.2.1 ∧ p.2.2.1 ≤ 1000
theorem nest_inv {W : Int} (hW : W ≤ 1000) {lie : List Rc} (hl : ∀ p ∈ lie, okR p ∧ p.y + p.h ≤ 1000 * lie.length) (hn : lie.length < 1000) {it : Int × Int × Int × Bool} (hi : okI W it) {q : Int × Int} (hq : placeOf W lie it.2.1 it.2.2.1 = some q) :
    (∀ p ∈ lie ++ [(⟨q.1, q.2, it.2.1, it.2.2.1⟩ : Rc)], okR p ∧ p.y + p.h ≤ 1000 * (lie ++ [(⟨q.1, q.2, it.2.1, it.2.2.1⟩ : Rc)]).length) ∧ 0 ≤ q.1 ∧ 0 ≤ q.2 ∧ q.2 ≤ 1000 * lie.length := by
  have hg := place_good hq
  obtain ⟨g1, g2, g3, g4⟩ := hg
  have b1 := xsOf_bd (fun p hp => (hl p hp).1) _ g1
  have b2 : 0 ≤ q.2 ∧ q.2 ≤ 1000 * lie.length := by
    refine ⟨(ysOf_bd (fun p hp => (hl p hp).1) _ g2).1, ?_⟩
    unfold ysOf at g2
    rcases List.mem_cons.1 g2 with h | h
    · rw [h]; omega
    · obtain ⟨p, hp, e⟩ := List.mem_map.1 h
      have := (hl p hp).2
      have e' : p.y + p.h = q.2 := e
      omega
  obtain ⟨i1, i2, i3, i4⟩ := hi
  refine ⟨fun p hp => ?_, b1.1, b2.1, b2.2⟩
  have hlen : (lie ++ [(⟨q.1, q.2, it.2.1, it.2.2.1⟩ : Rc)]).length = lie.length + 1 := by simp
  rw [hlen]
  rcases List.mem_append.1 hp with hp | hp
  · have := hl p hp
    refine ⟨this.1, ?_⟩
    have := this.2; omega
  · rw [List.mem_singleton] at hp
    subst hp
    refine ⟨⟨b1.1, i1, i3, b2.1, ?_, ?_⟩, ?_⟩
    · show q.1 + it.2.1 ≤ 1000; omega
    · show q.2 + it.2.2.1 ≤ 1000000; omega
    · show q.2 + it.2.2.1 ≤ _; omega
theorem spec_nest (W : Int) (ps : List PL) (order : List Int) (turned : List Bool) (its : List (Int × Int × Int × Bool)) (hW : W ≤ 1000) (hn : its.length ≤ 100) (ho : order.length = its.length) (ht : turned.length = its.length)
    (hi : ∀ it ∈ its, okI W it) (he : ∀ j (h : j < its.length), 0 ≤ rd order (j : Int) ∧ rd order (j : Int) < (ps.length : Int) ∧ its[j] = (rd order (j : Int), if rdOf false turned (j : Int) = true then ((rd_T86 ps (rd order (j : Int))).f1, (rd_T86 ps (rd order (j : Int))).f0, rdOf false turned (j : Int)) else ((rd_T86 ps (rd order (j : Int))).f0, (rd_T86 ps (rd order (j : Int))).f1, rdOf false turned (j : Int)))) :
    Ev (fun k => spec_l16Nest.f k W ps order turned) (nestR W its [] [] 0) := by
  have key : ∀ (m j : Nat) (lie : List Rc) (out : List SP) (high : Int), j + m = its.length → lie.length = j → out.length = j → 0 ≤ high → high ≤ 1000 * j → (∀ p ∈ lie, okR p ∧ p.y + p.h ≤ 1000 * lie.length) →
      Ev (fun k => spec_l16Nest.l0 k W ps order turned (lie.map toS) out high (j : Int)) (nestR W (its.drop j) lie out high) := by
    intro m
    induction m with
    | zero =>
      intro j lie out high hj h1 h2 h3 h4 h5
      obtain rfl : j = its.length := by omega
      rw [List.drop_length]
      refine ev_some fun k => ?_
      simp only [spec_l16Nest.l0]
      rw [if_neg (by omega)]; rfl
    | succ m ih =>
      intro j lie out high hj h1 h2 h3 h4 h5
      have hd : its.drop j = its[j]'(by omega) :: its.drop (j + 1) := List.drop_eq_getElem_cons (by omega)
      have hok := hi _ (List.getElem_mem (show j < its.length by omega))
      obtain ⟨e1, e2, e3⟩ := he j (by omega)
      obtain ⟨i1, i2, i3, i4⟩ := hok
      have hs : (placeOf W lie (its[j]'(by omega)).2.1 (its[j]'(by omega)).2.2.1).isSome = true := place_some i2
      obtain ⟨q, hq⟩ := Option.isSome_iff_exists.1 hs
      obtain ⟨n1, n2, n3, n4⟩ := nest_inv hW h5 (by omega) (hi _ (List.getElem_mem (show j < its.length by omega))) hq
      have pl := spec_place W lie (its[j]'(by omega)).2.1 (its[j]'(by omega)).2.2.1 hW (fun p hp => (h5 p hp).1) (by omega) ⟨i1, by omega⟩ ⟨i3, i4⟩
      rw [hq] at pl
      rw [hd]
      have next := ih (j + 1) (lie ++ [⟨q.1, q.2, (its[j]'(by omega)).2.1, (its[j]'(by omega)).2.2.1⟩]) (out ++ [⟨(its[j]'(by omega)).1, q.1, q.2, (its[j]'(by omega)).2.2.2⟩]) (max high (q.2 + (its[j]'(by omega)).2.2.1)) (by omega) (by simp; omega) (by simp; omega) (by omega) (by omega) n1
      have red : nestR W (its[j]'(by omega) :: its.drop (j + 1)) lie out high = nestR W (its.drop (j + 1)) (lie ++ [⟨q.1, q.2, (its[j]'(by omega)).2.1, (its[j]'(by omega)).2.2.1⟩]) (out ++ [⟨(its[j]'(by omega)).1, q.1, q.2, (its[j]'(by omega)).2.2.2⟩]) (max high (q.2 + (its[j]'(by omega)).2.2.1)) := by
        rw [nestR, hq]
      rw [red]
      generalize its[j]'(by omega) = it at *
      have tail : ∀ k, (if (lie.map toS).length < 4398046511104 then (if out.length < 4398046511104 then spec_l16Nest.l0 k W ps order turned (lie.map toS ++ [(⟨q.1, q.2, it.2.1, it.2.2.1⟩ : SR)]) (out ++ [(⟨it.1, q.1, q.2, it.2.2.2⟩ : SP)]) (mx high (wrap64 (q.2 + it.2.2.1))) (wrap64 ((j : Int) + 1)) else none) else none) = spec_l16Nest.l0 k W ps order turned ((lie ++ [(⟨q.1, q.2, it.2.1, it.2.2.1⟩ : Rc)]).map toS) (out ++ [(⟨it.1, q.1, q.2, it.2.2.2⟩ : SP)]) (max high (q.2 + it.2.2.1)) ((j + 1 : Nat) : Int) := fun k => by
        rw [if_pos (by simp; omega), if_pos (by omega), wr (by omega) (by omega), wr_succ j (by omega), mx_eq, List.map_append]; rfl
      have next' := Ev.congr tail next
      by_cases c : rdOf false turned (j : Int) = true
      · rw [if_pos c] at e3
        subst e3
        refine ev_one (fun k => by
          simp only [spec_l16Nest.l0]
          rw [if_pos (by omega), if_pos (by omega), if_pos e1, if_pos e2, if_pos (by omega), if_pos c]) ?_
        exact Ev.bind pl next'
      · rw [if_neg c] at e3
        subst e3
        refine ev_one (fun k => by
          simp only [spec_l16Nest.l0]
          rw [if_pos (by omega), if_pos (by omega), if_pos e1, if_pos e2, if_pos (by omega), if_neg c]) ?_
        exact Ev.bind pl next'
  have := key its.length 0 [] [] 0 (by omega) rfl rfl (by omega) (by omega) (fun p hp => by cases hp)
  rw [List.drop_zero] at this
  exact this
theorem impl_nest (W : Int) (ps : List PL) (its : List (Int × Int × Int × Bool)) (hW : W ≤ 1000) (hn : its.length ≤ 100) (ho : ps.length = its.length)
    (hi : ∀ it ∈ its, okI W it) (he : ∀ j (h : j < its.length), its[j] = ((j : Int), if (rd_T86 ps (j : Int)).f0 > W then ((rd_T86 ps (j : Int)).f1, (rd_T86 ps (j : Int)).f0, true) else ((rd_T86 ps (j : Int)).f0, (rd_T86 ps (j : Int)).f1, false))) :
    Ev (fun k => impl_Nest.l0 k W [] [] 0 ps (ps.length : Int) 0) ((nestR W its [] [] 0).1, (nestR W its [] [] 0).2, 0) := by
  have key : ∀ (m j : Nat) (lie : List Rc) (out : List SP) (high : Int), j + m = its.length → lie.length = j → out.length = j → 0 ≤ high → high ≤ 1000 * j → (∀ p ∈ lie, okR p ∧ p.y + p.h ≤ 1000 * lie.length) →
      Ev (fun k => impl_Nest.l0 k W (lie.map toI) out high ps (ps.length : Int) (j : Int)) ((nestR W (its.drop j) lie out high).1, (nestR W (its.drop j) lie out high).2, 0) := by
    intro m
    induction m with
    | zero =>
      intro j lie out high hj h1 h2 h3 h4 h5
      obtain rfl : j = its.length := by omega
      rw [List.drop_length]
      refine ev_some fun k => ?_
      simp only [impl_Nest.l0]
      rw [if_neg (by omega)]; rfl
    | succ m ih =>
      intro j lie out high hj h1 h2 h3 h4 h5
      have hd : its.drop j = its[j]'(by omega) :: its.drop (j + 1) := List.drop_eq_getElem_cons (by omega)
      have hok := hi _ (List.getElem_mem (show j < its.length by omega))
      have e3 := he j (by omega)
      obtain ⟨i1, i2, i3, i4⟩ := hok
      have hs : (placeOf W lie (its[j]'(by omega)).2.1 (its[j]'(by omega)).2.2.1).isSome = true := place_some i2
      obtain ⟨q, hq⟩ := Option.isSome_iff_exists.1 hs
      obtain ⟨n1, n2, n3, n4⟩ := nest_inv hW h5 (by omega) (hi _ (List.getElem_mem (show j < its.length by omega))) hq
      have pl := impl_place W lie (its[j]'(by omega)).2.1 (its[j]'(by omega)).2.2.1 hW (fun p hp => (h5 p hp).1) (by omega) ⟨i1, by omega⟩ ⟨i3, i4⟩
      rw [hq] at pl
      rw [hd]
      have next := ih (j + 1) (lie ++ [⟨q.1, q.2, (its[j]'(by omega)).2.1, (its[j]'(by omega)).2.2.1⟩]) (out ++ [⟨(its[j]'(by omega)).1, q.1, q.2, (its[j]'(by omega)).2.2.2⟩]) (max high (q.2 + (its[j]'(by omega)).2.2.1)) (by omega) (by simp; omega) (by simp; omega) (by omega) (by omega) n1
      have red : nestR W (its[j]'(by omega) :: its.drop (j + 1)) lie out high = nestR W (its.drop (j + 1)) (lie ++ [⟨q.1, q.2, (its[j]'(by omega)).2.1, (its[j]'(by omega)).2.2.1⟩]) (out ++ [⟨(its[j]'(by omega)).1, q.1, q.2, (its[j]'(by omega)).2.2.2⟩]) (max high (q.2 + (its[j]'(by omega)).2.2.1)) := by
        rw [nestR, hq]
      rw [red]
      generalize its[j]'(by omega) = it at *
      have tail : ∀ k, (if (lie.map toI).length < 4398046511104 then (if out.length < 4398046511104 then impl_Nest.l0 k W (lie.map toI ++ [(⟨q.1, q.2, it.2.1, it.2.2.1⟩ : IR)]) (out ++ [(⟨it.1, q.1, q.2, it.2.2.2⟩ : SP)]) (mx high (wrap64 (q.2 + it.2.2.1))) ps (ps.length : Int) (wrap64 ((j : Int) + 1)) else none) else none) = impl_Nest.l0 k W ((lie ++ [(⟨q.1, q.2, it.2.1, it.2.2.1⟩ : Rc)]).map toI) (out ++ [(⟨it.1, q.1, q.2, it.2.2.2⟩ : SP)]) (max high (q.2 + it.2.2.1)) ps (ps.length : Int) ((j + 1 : Nat) : Int) := fun k => by
        rw [if_pos (by simp; omega), if_pos (by omega), wr (by omega) (by omega), wr_succ j (by omega), mx_eq, List.map_append]; rfl
      have next' := Ev.congr tail next
      by_cases c : (rd_T86 ps (j : Int)).f0 > W
      · rw [if_pos c] at e3
        subst e3
        refine ev_one (fun k => by
          simp only [impl_Nest.l0]
          rw [if_pos (by omega), if_pos (by omega), if_pos (by omega), if_pos c, show decide ((rd_T86 ps (j : Int)).f0 > W) = true from decide_eq_true c]) ?_
        exact Ev.bind pl next'
      · rw [if_neg c] at e3
        subst e3
        refine ev_one (fun k => by
          simp only [impl_Nest.l0]
          rw [if_pos (by omega), if_pos (by omega), if_pos (by omega), if_neg c, show decide ((rd_T86 ps (j : Int)).f0 > W) = false from decide_eq_false c]) ?_
        exact Ev.bind pl next'
  have := key its.length 0 [] [] 0 (by omega) rfl rfl (by omega) (by omega) (fun p hp => by cases hp)
  rw [List.drop_zero] at this
  exact this
/-- What is wrong with a width and plates. -/
def okP (p : PL) : Bool := decide (1 ≤ p.f0 ∧ p.f0 ≤ 1000 ∧ 1 ≤ p.f1 ∧ p.f1 ≤ 1000)
def fitP (W : Int) (p : PL) : Bool := decide (p.f0 ≤ W ∨ p.f1 ≤ W)
def codeN (W : Int) (ps : List PL) : Int :=
  if ps.length > 4096 then 2 else if W < 1 ∨ W > 1000 ∨ ps.length > 100 then 1 else
  if (∀ i, i < ps.length → okP (rd_T86 ps (i : Int)) = true) then (if (∀ i, i < ps.length → fitP W (rd_T86 ps (i : Int)) = true) then 0 else 5) else 1
theorem within2 (a b : Int) : Ev (fun k => spec_l16Within.f k [a, b] 1 1000) (decide (1 ≤ a ∧ a ≤ 1000 ∧ 1 ≤ b ∧ b ≤ 1000)) := by
  refine ⟨3, fun k hk => ?_⟩
  obtain ⟨m, rfl⟩ : ∃ m, k = m + 3 := ⟨k - 3, by omega⟩
  have w1 : wrap64 ((0 : Int) + 1) = 1 := (wr (by omega) (by omega)).trans (by omega)
  have w2 : wrap64 ((1 : Int) + 1) = 2 := (wr (by omega) (by omega)).trans (by omega)
  have r0 : rd [a, b] 0 = a := rfl
  have r1 : rd [a, b] 1 = b := rfl
  have hl : (([a, b] : List Int).length : Int) = 2 := rfl
  simp only [spec_l16Within.f]
  rw [spec_l16Within.l0, if_pos (by rw [hl]; omega), if_pos (by omega), r0, w1]
  by_cases c1 : a < 1
  · rw [if_pos c1]; simp; omega
  · rw [if_neg c1]
    by_cases c2 : a > 1000
    · rw [if_pos c2]; simp; omega
    · rw [if_neg c2, spec_l16Within.l0, if_pos (by rw [hl]; omega), if_pos (by omega), r1, w2]
      by_cases c3 : b < 1
      · rw [if_pos c3]; simp; omega
      · rw [if_neg c3]
        by_cases c4 : b > 1000
        · rw [if_pos c4]; simp; omega
        · rw [if_neg c4, spec_l16Within.l0, if_neg (by rw [hl]; omega)]; simp; omega
theorem spec_code (W : Int) (ps : List PL) (hn : ps.length ≤ 1048576) : Ev (fun k => spec_l16Plates.f k W ps) (codeN W ps) := by
  unfold spec_l16Plates.f codeN
  by_cases h0 : (ps.length : Int) > 4096
  · simp only [if_pos h0]; rw [if_pos (by omega)]; exact ev_const rfl
  simp only [if_neg h0]
  rw [if_neg (by omega)]
  by_cases h1 : W < 1
  · simp only [if_pos h1]; rw [if_pos (Or.inl h1)]; exact ev_some fun k => by simp only [spec_l16Plates.j0, if_true]
  simp only [if_neg h1]
  by_cases h2 : W > 1000
  · simp only [if_pos h2]; rw [if_pos (Or.inr (Or.inl h2))]; exact ev_some fun k => by simp only [spec_l16Plates.j0, if_true]
  simp only [if_neg h2]
  by_cases h3 : (ps.length : Int) > 100
  · simp only [decide_eq_true h3]; rw [if_pos (Or.inr (Or.inr (by omega)))]; exact ev_some fun k => by simp only [spec_l16Plates.j0, if_true]
  simp only [decide_eq_false h3]
  rw [if_neg (by omega)]
  refine ev_one (f := fun k => spec_l16Plates.l0 k W ps 0) (fun k => by simp only [spec_l16Plates.j0, Bool.false_eq_true, if_false]) ?_
  refine all_steps (fun i k => spec_l16Plates.l0 k W ps (i : Int)) ps.length (fun i => okP (rd_T86 ps (i : Int))) (fun i hi hp q hq => ?_) (fun i hi hp => ?_) (fun _ => ?_)
  · refine ev_one (fun k => by simp only [spec_l16Plates.l0]; rw [if_pos (by omega), if_pos (by omega)]) ?_
    refine Ev.bind (within2 _ _) ?_
    simp only [okP] at hp
    simp only [hp, if_true]
    rw [wr_succ i (by omega)]; exact hq
  · refine ev_one (fun k => by simp only [spec_l16Plates.l0]; rw [if_pos (by omega), if_pos (by omega)]) ?_
    refine Ev.bind (within2 _ _) ?_
    simp only [okP] at hp
    simp only [hp, Bool.false_eq_true, if_false]
    exact Ev.now _
  · refine ev_one (f := fun k => spec_l16Plates.l1 k W ps 0) (fun k => by show spec_l16Plates.l0 (k + 1) W ps (ps.length : Int) = _; simp only [spec_l16Plates.l0]; rw [if_neg (by omega)]) ?_
    refine all_loop (fun i k => spec_l16Plates.l1 k W ps (i : Int)) ps.length (fun i => fitP W (rd_T86 ps (i : Int))) (fun i hi hp => ⟨0, fun k _ => ?_⟩) (fun i hi hp => ev_some fun k => ?_) (fun _ => ev_some fun k => ?_)
    · show spec_l16Plates.l1 (k + 1) W ps (i : Int) = spec_l16Plates.l1 k W ps ((i + 1 : Nat) : Int)
      simp only [fitP, decide_eq_true_eq] at hp
      simp only [spec_l16Plates.l1]
      rw [if_pos (by omega), if_pos (by omega), wr_succ i (by omega)]
      by_cases c : (rd_T86 ps (i : Int)).f0 > W
      · rw [if_pos c, if_neg (by omega)]
      · rw [if_neg c]
    · show spec_l16Plates.l1 (k + 1) W ps (i : Int) = _
      simp only [fitP, decide_eq_false_iff_not] at hp
      simp only [spec_l16Plates.l1]
      rw [if_pos (by omega), if_pos (by omega), if_pos (by omega), if_pos (by omega)]
    · show spec_l16Plates.l1 (k + 1) W ps (ps.length : Int) = _
      simp only [spec_l16Plates.l1]
      rw [if_neg (by omega)]
theorem impl_code (W : Int) (ps : List PL) (hn : ps.length ≤ 1048576) : Ev (fun k => impl_nestCode.f k W ps) (codeN W ps) := by
  unfold impl_nestCode.f codeN
  by_cases h0 : (ps.length : Int) > 4096
  · simp only [if_pos h0]; rw [if_pos (by omega)]; exact ev_const rfl
  simp only [if_neg h0]
  rw [if_neg (by omega)]
  by_cases h1 : W < 1
  · simp only [if_pos h1]; rw [if_pos (Or.inl h1)]; exact ev_some fun k => by simp only [impl_nestCode.j0, if_true]
  simp only [if_neg h1]
  by_cases h2 : W > 1000
  · simp only [if_pos h2]; rw [if_pos (Or.inr (Or.inl h2))]; exact ev_some fun k => by simp only [impl_nestCode.j0, if_true]
  simp only [if_neg h2]
  by_cases h3 : (ps.length : Int) > 100
  · simp only [decide_eq_true h3]; rw [if_pos (Or.inr (Or.inr (by omega)))]; exact ev_some fun k => by simp only [impl_nestCode.j0, if_true]
  simp only [decide_eq_false h3]
  rw [if_neg (by omega)]
  refine ev_one (f := fun k => impl_nestCode.l0 k W ps ps (ps.length : Int) 0) (fun k => by simp only [impl_nestCode.j0, Bool.false_eq_true, if_false]) ?_
  refine all_steps (fun i k => impl_nestCode.l0 k W ps ps (ps.length : Int) (i : Int)) ps.length (fun i => okP (rd_T86 ps (i : Int))) (fun i hi hp q hq => ?_) (fun i hi hp => ev_some fun k => ?_) (fun _ => ?_)
  · refine ev_one (fun k => ?_) hq
    simp only [okP, decide_eq_true_eq] at hp
    simp only [impl_nestCode.l0]
    rw [if_pos (by omega), if_pos (by omega), if_pos (by omega), if_neg (by omega), if_neg (by omega), if_neg (by omega), if_neg (by omega), wr_succ i (by omega)]
  · show impl_nestCode.l0 (k + 1) W ps ps (ps.length : Int) (i : Int) = _
    simp only [okP, decide_eq_false_iff_not] at hp
    simp only [impl_nestCode.l0]
    rw [if_pos (by omega), if_pos (by omega), if_pos (by omega)]
    by_cases c1 : (rd_T86 ps (i : Int)).f0 < 1
    · rw [if_pos c1]
    · rw [if_neg c1]
      by_cases c2 : (rd_T86 ps (i : Int)).f0 > 1000
      · rw [if_pos c2]
      · rw [if_neg c2]
        by_cases c3 : (rd_T86 ps (i : Int)).f1 < 1
        · rw [if_pos c3]
        · rw [if_neg c3, if_pos (by omega)]
  · refine ev_one (f := fun k => impl_nestCode.l1 k W ps (ps.length : Int) 0) (fun k => by show impl_nestCode.l0 (k + 1) W ps ps (ps.length : Int) (ps.length : Int) = _; simp only [impl_nestCode.l0]; rw [if_neg (by omega)]) ?_
    refine all_loop (fun i k => impl_nestCode.l1 k W ps (ps.length : Int) (i : Int)) ps.length (fun i => fitP W (rd_T86 ps (i : Int))) (fun i hi hp => ⟨0, fun k _ => ?_⟩) (fun i hi hp => ev_some fun k => ?_) (fun _ => ev_some fun k => ?_)
    · show impl_nestCode.l1 (k + 1) W ps (ps.length : Int) (i : Int) = impl_nestCode.l1 k W ps (ps.length : Int) ((i + 1 : Nat) : Int)
      simp only [fitP, decide_eq_true_eq] at hp
      simp only [impl_nestCode.l1]
      rw [if_pos (by omega), if_pos (by omega), if_pos (by omega), wr_succ i (by omega)]
      by_cases c : (rd_T86 ps (i : Int)).f0 > W
      · rw [if_pos c, if_neg (by omega)]
      · rw [if_neg c]
    · show impl_nestCode.l1 (k + 1) W ps (ps.length : Int) (i : Int) = _
      simp only [fitP, decide_eq_false_iff_not] at hp
      simp only [impl_nestCode.l1]
      rw [if_pos (by omega), if_pos (by omega), if_pos (by omega), if_pos (by omega), if_pos (by omega)]
    · show impl_nestCode.l1 (k + 1) W ps (ps.length : Int) (ps.length : Int) = _
      simp only [impl_nestCode.l1]
      rw [if_neg (by omega)]
/-- The plates in their order, each turned if it is too wide. -/
def plainI (W : Int) (ps : List PL) : List (Int × Int × Int × Bool) :=
  (List.range ps.length).map fun (j : Nat) => ((j : Int), if (rd_T86 ps (j : Int)).f0 > W then ((rd_T86 ps (j : Int)).f1, (rd_T86 ps (j : Int)).f0, true) else ((rd_T86 ps (j : Int)).f0, (rd_T86 ps (j : Int)).f1, false))
theorem plain_at (W : Int) (ps : List PL) (j : Nat) (hj : j < (plainI W ps).length) : (plainI W ps)[j] = ((j : Int), if (rd_T86 ps (j : Int)).f0 > W then ((rd_T86 ps (j : Int)).f1, (rd_T86 ps (j : Int)).f0, true) else ((rd_T86 ps (j : Int)).f0, (rd_T86 ps (j : Int)).f1, false)) := by
  have e : ∀ (f : Nat → Int × Int × Int × Bool) (n : Nat) (h : j < ((List.range n).map f).length), ((List.range n).map f)[j] = f j := fun f n h => by simp
  exact e _ _ hj
theorem code0 {W : Int} {ps : List PL} (h : codeN W ps = 0) : 1 ≤ W ∧ W ≤ 1000 ∧ ps.length ≤ 100 ∧ ∀ i, i < ps.length → okP (rd_T86 ps (i : Int)) = true ∧ fitP W (rd_T86 ps (i : Int)) = true := by
  unfold codeN at h
  split at h
  · omega
  · split at h
    · omega
    · rename_i h2
      split at h
      · rename_i h3
        split at h
        · rename_i h4
          exact ⟨by omega, by omega, by omega, fun i hi => ⟨h3 i hi, h4 i hi⟩⟩
        · omega
      · omega
theorem plain_ok {W : Int} {ps : List PL} (h : codeN W ps = 0) : ∀ it ∈ plainI W ps, okI W it := by
  obtain ⟨h1, h2, h3, h4⟩ := code0 h
  intro it hit
  obtain ⟨j, hj, rfl⟩ := List.mem_map.1 hit
  have hj := h4 j (List.mem_range.1 hj)
  simp only [okP, fitP, decide_eq_true_eq] at hj
  unfold okI
  simp only []
  split <;> simp only [] <;> omega
def nestM (W : Int) (ps : List PL) : List SP × Int × Int := if codeN W ps = 0 then ((nestR W (plainI W ps) [] [] 0).1, (nestR W (plainI W ps) [] [] 0).2, 0) else ([], 0, codeN W ps)
theorem spec_Nest (W : Int) (ps : List PL) (hn : ps.length ≤ 1048576) : Ev (fun k => spec_Nest.f k W ps) (nestM W ps) := by
  unfold spec_Nest.f
  refine Ev.bind (spec_code W ps hn) ?_
  unfold nestM
  by_cases h : codeN W ps = 0
  · simp only [if_pos h]
    obtain ⟨h1, h2, h3, h4⟩ := code0 h
    have := ev_run0 (r := ((nestR W (plainI W ps) [] [] 0).1, (nestR W (plainI W ps) [] [] 0).2, (0 : Int))) (fun i k => spec_Nest.l0 k W ps ((List.range i).map fun (j : Nat) => (j : Int)) ((List.range i).map fun (j : Nat) => decide ((rd_T86 ps (j : Int)).f0 > W)) (i : Int)) ps.length (fun i hi k => by
      show spec_Nest.l0 (k + 1) W ps ((List.range i).map fun (j : Nat) => (j : Int)) ((List.range i).map fun (j : Nat) => decide ((rd_T86 ps (j : Int)).f0 > W)) (i : Int) = spec_Nest.l0 k W ps ((List.range (i + 1)).map fun (j : Nat) => (j : Int)) ((List.range (i + 1)).map fun (j : Nat) => decide ((rd_T86 ps (j : Int)).f0 > W)) ((i + 1 : Nat) : Int)
      simp only [spec_Nest.l0]
      rw [if_pos (by omega), if_pos (by simp; omega), if_pos (by omega), if_pos (by simp; omega), wr_succ i (by omega), List.range_succ, List.map_append, List.map_append]
      rfl) (by
      refine ev_one (fun k => by
        show spec_Nest.l0 (k + 1) W ps _ _ (ps.length : Int) = _
        simp only [spec_Nest.l0]; rw [if_neg (by omega)]) ?_
      refine Ev.bind (spec_nest W ps _ _ (plainI W ps) h2 (by unfold plainI; simp; omega) (by unfold plainI; simp) (by unfold plainI; simp) (plain_ok h) (fun j hj => ?_)) (Ev.now _)
      have hj' : j < ps.length := by unfold plainI at hj; simpa using hj
      have e1 : rd ((List.range ps.length).map fun (j : Nat) => (j : Int)) (j : Int) = (j : Int) := by unfold rd; simp [hj']
      have e2 : rdOf false ((List.range ps.length).map fun (j : Nat) => decide ((rd_T86 ps (j : Int)).f0 > W)) (j : Int) = decide ((rd_T86 ps (j : Int)).f0 > W) := by unfold rdOf; simp [hj']
      rw [e1, e2]
      refine ⟨by omega, by omega, ?_⟩
      rw [plain_at]
      simp only [decide_eq_true_eq]
      by_cases c : (rd_T86 ps (j : Int)).f0 > W
      · rw [if_pos c, if_pos c, decide_eq_true c]
      · rw [if_neg c, if_neg c, decide_eq_false c])
    exact this
  · simp only [if_neg h]; exact Ev.now _
theorem impl_Nest (W : Int) (ps : List PL) (hn : ps.length ≤ 1048576) : Ev (fun k => impl_Nest.f k W ps) (nestM W ps) := by
  unfold impl_Nest.f
  refine Ev.bind (impl_code W ps hn) ?_
  unfold nestM
  by_cases h : codeN W ps = 0
  · simp only [if_pos h]
    obtain ⟨h1, h2, h3, h4⟩ := code0 h
    exact impl_nest W ps (plainI W ps) h2 (by unfold plainI; simp; omega) (by unfold plainI; simp) (plain_ok h) (fun j hj => plain_at W ps j hj)
  · simp only [if_neg h]; exact Ev.now _

def plConv (p : S108) : PL := ⟨p.f0, p.f1⟩
theorem copy_plates (l : List S108) (h : l.length ≤ 1048576) : Ev (fun k => laws_toPlateS.f k l) (l.map plConv) := by
  have := copy_loop laws_toPlateS.l0 plConv z108 (fun k x0 x3 i h1 h2 => by
    simp only [laws_toPlateS.l0, laws_toPlate.f, Option.bind_some]
    rw [if_pos (by omega), if_pos (by omega), if_pos (by omega)]
    rfl) (fun k x0 x3 => by simp only [laws_toPlateS.l0]; rw [if_neg (by omega)]) l (by omega) (List.replicate l.length z86) (by simp)
  unfold laws_toPlateS.f
  simp only [show (0 : Int) ≤ (l.length : Int) from by omega, if_true, Int.toNat_natCast, show l.length ≤ 17592186044416 from by omega]
  exact this
theorem same_plates (l : List PL) (h : l.length ≤ 1048576) : Ev (fun k => laws_eqPlateS.f k l l) true := by
  unfold laws_eqPlateS.f
  simp only [if_true]
  exact same_loop laws_eqPlateS.l0 l (fun k i hi => by
    simp only [laws_eqPlateS.l0, laws_eqPlate.f, if_true, Option.bind_some]
    rw [if_pos (by omega), if_pos (by omega), if_pos (by omega)]) (fun k => by simp only [laws_eqPlateS.l0]; rw [if_neg (by omega)]) (by omega)
theorem same_spots (l : List SP) (h : l.length ≤ 1048576) : Ev (fun k => laws_eqSpot2S.f k l l) true := by
  unfold laws_eqSpot2S.f
  simp only [if_true]
  exact same_loop laws_eqSpot2S.l0 l (fun k i hi => by
    simp only [laws_eqSpot2S.l0, laws_eqSpot2.f, if_true, Option.bind_some, bne_self_eq_false, Bool.false_eq_true, if_false]
    rw [if_pos (by omega), if_pos (by omega), if_pos (by omega)]) (fun k => by simp only [laws_eqSpot2S.l0]; rw [if_neg (by omega)]) (by omega)
theorem mark_plates (n : Nat) (hn : n ≤ 1048576) : ∀ (m i : Nat) (x : List PL), i + m = n → x.length = n → ∃ x', Ev (fun k => laws_markPlateS.l0 k x (1 + 2 * (i : Int)) (i : Int)) (1 + 2 * (n : Int), x') := by
  intro m
  induction m with
  | zero =>
    intro i x hi hx
    obtain rfl : i = n := by omega
    exact ⟨x, ev_some fun k => by simp only [laws_markPlateS.l0]; rw [if_neg (by omega)]⟩
  | succ m ih =>
    intro i x hi hx
    obtain ⟨x', h⟩ := ih (i + 1) _ (by omega) (show (((x.set i (⟨1 + 2 * (i : Int), (rd_T86 x (i : Int)).f1⟩ : PL))).set i (⟨(rd_T86 (x.set i (⟨1 + 2 * (i : Int), (rd_T86 x (i : Int)).f1⟩ : PL)) (i : Int)).f0, 1 + 2 * (i : Int) + 1⟩ : PL)).length = n by simpa using hx)
    refine ⟨x', ev_one (fun k => ?_) h⟩
    simp only [laws_markPlateS.l0]
    rw [if_pos (by omega), if_pos (by omega)]
    simp only [Option.bind_some, Int.toNat_natCast]
    rw [wr (n := 1 + 2 * (i : Int) + 1) (by omega) (by omega), wr (by omega) (by omega), wr_succ i (by omega), show 1 + 2 * (i : Int) + 1 + 1 = 1 + 2 * ((i + 1 : Nat) : Int) by omega]
/-- what a spot is marked with -/
def mkS (j : Nat) : SP := ⟨1 + 4 * (j : Int), 2 + 4 * (j : Int), 3 + 4 * (j : Int), (Int.tmod (4 + 4 * (j : Int)) 3 == 0)⟩
theorem rd_setS (x : List SP) (i : Nat) (h : i < x.length) (v : SP) : rd_T114 (x.set i v) (i : Int) = v := by
  unfold rd_T114; simp [h]
theorem mark_spots (n : Nat) (hn : n ≤ 1048576) : ∀ (m i : Nat) (x : List SP), i + m = n → x.length = n → (∀ j, j < i → rd_T114 x (j : Int) = mkS j) → ∃ x', Ev (fun k => laws_markSpot2S.l0 k x (1 + 4 * (i : Int)) (i : Int)) (1 + 4 * (n : Int), x') ∧ x'.length = n ∧ ∀ j, j < n → rd_T114 x' (j : Int) = mkS j := by
  intro m
  induction m with
  | zero =>
    intro i x hi hx hr
    obtain rfl : i = n := by omega
    exact ⟨x, ev_some fun k => by simp only [laws_markSpot2S.l0]; rw [if_neg (by omega)], hx, hr⟩
  | succ m ih =>
    intro i x hi hx hr
    obtain ⟨x', h, h1, h2⟩ := ih (i + 1) (x.set i (mkS i)) (by omega) (by simpa using hx) (fun j hj => by
      rcases Nat.lt_or_ge j i with hl | hl
      · rw [← hr j hl]; unfold rd_T114; simp [List.getElem?_set_ne (show i ≠ j by omega)]
      · obtain rfl : j = i := by omega
        exact rd_setS x j (by omega) _)
    refine ⟨x', ev_one (fun k => ?_) h, h1, h2⟩
    simp only [laws_markSpot2S.l0]
    rw [if_pos (by omega), if_pos (by omega)]
    simp only [Option.bind_some, Int.toNat_natCast]
    rw [rd_setS x i (by omega)]
    simp only [List.set_set]
    rw [rd_setS x i (by omega)]
    simp only [List.set_set]
    rw [rd_setS x i (by omega)]
    simp only [List.set_set]
    rw [wr (n := 1 + 4 * (i : Int) + 1) (by omega) (by omega), wr (n := 1 + 4 * (i : Int) + 1 + 1) (by omega) (by omega), wr (n := 1 + 4 * (i : Int) + 1 + 1 + 1) (by omega) (by omega), wr (n := 1 + 4 * (i : Int) + 1 + 1 + 1 + 1) (by omega) (by omega), wr_succ i (by omega),
      show 1 + 4 * (i : Int) + 1 + 1 + 1 + 1 = 1 + 4 * ((i + 1 : Nat) : Int) by omega, show 1 + 4 * (i : Int) + 1 + 1 + 1 = 4 + 4 * (i : Int) by omega, show 1 + 4 * (i : Int) + 1 + 1 = 3 + 4 * (i : Int) by omega, show 1 + 4 * (i : Int) + 1 = 2 + 4 * (i : Int) by omega]
    rfl
theorem held_spots (x : List SP) (hn : x.length ≤ 1048576) (h : ∀ j, j < x.length → rd_T114 x (j : Int) = mkS j) : Ev (fun k => laws_heldSpot2S.f k x 1) (1 + 4 * (x.length : Int)) := by
  have := ev_run0 (r := 1 + 4 * (x.length : Int)) (fun i k => laws_heldSpot2S.l0 k x (1 + 4 * (i : Int)) (i : Int)) x.length (fun i hi k => by
    show laws_heldSpot2S.l0 (k + 1) x (1 + 4 * (i : Int)) (i : Int) = laws_heldSpot2S.l0 k x (1 + 4 * ((i + 1 : Nat) : Int)) ((i + 1 : Nat) : Int)
    simp only [laws_heldSpot2S.l0, h i hi, mkS]
    rw [wr (n := 1 + 4 * (i : Int) + 1) (by omega) (by omega), wr (n := 1 + 4 * (i : Int) + 1 + 1) (by omega) (by omega), wr (n := 1 + 4 * (i : Int) + 1 + 1 + 1) (by omega) (by omega), wr (n := 1 + 4 * (i : Int) + 1 + 1 + 1 + 1) (by omega) (by omega), wr_succ i (by omega),
      show 1 + 4 * (i : Int) + 1 + 1 + 1 + 1 = 1 + 4 * ((i + 1 : Nat) : Int) by omega, show 1 + 4 * (i : Int) + 1 + 1 + 1 = 4 + 4 * (i : Int) by omega, show 1 + 4 * (i : Int) + 1 + 1 = 3 + 4 * (i : Int) by omega, show 1 + 4 * (i : Int) + 1 = 2 + 4 * (i : Int) by omega]
    rw [if_pos (by omega), if_pos (by omega), if_pos trivial, if_pos rfl, if_pos rfl, if_neg (by simp)]) (ev_some fun k => by
    show laws_heldSpot2S.l0 (k + 1) x (1 + 4 * (x.length : Int)) (x.length : Int) = _
    simp only [laws_heldSpot2S.l0]; rw [if_neg (by omega)])
  simpa [laws_heldSpot2S.f] using this

theorem nest_len (W : Int) (ps : List PL) : (nestM W ps).1.length ≤ 100 := by
  unfold nestM
  by_cases h : codeN W ps = 0
  · rw [if_pos h]
    obtain ⟨h1, h2, h3, h4⟩ := code0 h
    have key : ∀ (its : List (Int × Int × Int × Bool)) lie out high, (nestR W its lie out high).1.length ≤ out.length + its.length := by
      intro its
      induction its with
      | nil => intro lie out high; simp [nestR]
      | cons it its ih =>
        intro lie out high
        unfold nestR
        split
        · exact Nat.le_trans (ih _ _ _) (by simp; omega)
        · simp
    have := key (plainI W ps) [] [] 0
    have e : (plainI W ps).length = ps.length := by unfold plainI; simp
    simp only [List.length_nil] at this
    show (nestR W (plainI W ps) [] [] 0).1.length ≤ 100
    omega
  · rw [if_neg h]; simp
theorem FnExactNest : laws_FnExactNest.Plain := by
  intro W l hW hl
  refine Ev.rounds ?_
  have hl1 := hl.1
  unfold maxLen at hl1
  unfold laws_FnExactNest.f laws_szPlateS.f
  rw [wr (n := 1048576 - (l.length : Int)) (by omega) (by omega)]
  by_cases hs : 1048576 - (l.length : Int) < 0
  · simp only [if_pos hs, Option.bind_some]; exact ev_const (by simp)
  simp only [if_neg hs, Option.bind_some]
  have hc := copy_plates l (by omega)
  have sp := spec_Nest W (l.map plConv) (by simp; omega)
  have ip := impl_Nest W (l.map plConv) (by simp; omega)
  have hp := nest_len W (l.map plConv)
  revert sp ip hp
  generalize nestM W (l.map plConv) = M
  obtain ⟨o, len, c⟩ := M
  intro sp ip hp
  have hp : o.length ≤ 100 := hp
  have so := same_spots o (by omega)
  refine Ev.bind hc ?_
  refine Ev.bind sp ?_
  refine Ev.bind hc ?_
  refine Ev.bind ip ?_
  refine Ev.bind so ?_
  simp only [if_true, bne_self_eq_false]
  obtain ⟨p', hm⟩ := mark_plates l.length (by omega) l.length 0 (l.map plConv) (by omega) (by simp)
  obtain ⟨o', ho, ho1, ho2⟩ := mark_spots o.length (by omega) o.length 0 o (by omega) rfl (fun j hj => by omega)
  have hh := held_spots o' (by omega) (by rw [ho1]; exact ho2)
  rw [ho1] at hh
  have hm : Ev (fun k => laws_markPlateS.f k (l.map plConv) 1) (1 + 2 * (l.length : Int), p') := hm
  have ho : Ev (fun k => laws_markSpot2S.f k o 1) (1 + 4 * (o.length : Int), o') := ho
  have last : Ev (fun k => laws_FnExactNest.j2 k o' (1 + 4 * (o.length : Int)) false) true := by
    refine ev_one (fun k => by simp only [laws_FnExactNest.j2, Bool.false_eq_true, if_false]; rfl) ?_
    refine Ev.bind hh ?_
    simp only [if_true]
    rw [if_neg (by omega)]; exact Ev.now _
  refine ev_one (fun k => by simp only [laws_FnExactNest.j0, Bool.false_eq_true, if_false]; rfl) ?_
  refine Ev.bind hc ?_
  refine Ev.bind (same_plates (l.map plConv) (by simp; omega)) ?_
  simp only [if_true]
  refine Ev.bind hm ?_
  simp only [if_neg (show ¬ 1 + 2 * (l.length : Int) < 0 by omega)]
  refine Ev.bind so ?_
  simp only [if_true, bne_self_eq_false]
  refine ev_one (fun k => by simp only [laws_FnExactNest.j1, Bool.false_eq_true, if_false]; rfl) ?_
  refine Ev.bind ho ?_
  refine Ev.bind hh ?_
  simp only [if_neg (show ¬ 1 + 4 * (o.length : Int) < 0 by omega), if_true]
  refine Ev.bind hc ?_
  refine Ev.bind ip ?_
  refine Ev.bind so ?_
  simp only [if_true, bne_self_eq_false]
  exact last
end Go.Proofs.Ythcpdgiinmocaaa.Pure
