/- FnExactProbing over numbers and lists alone: the program's Probing and the reference's answer alike at every list of points and every start. -/
import Derived.Test.YthcpdgiinmocaaaSFnExactProbing
import Derived.Test.YthcpdgiinmocaaaLib
namespace Go.Proofs.Ythcpdgiinmocaaa.Pure
open Go.RowKit Go.Proofs.Ythcpdgiinmocaaa.PFnExactProbing Go.Proofs.YthcpdgiinmocaaaW.PrintWords Go.Proofs.YthcpdgiinmocaaaW.PrintLast Go.Proofs.Ythcpdgiinmocaaa.Lib
set_option linter.unusedVariables false
set_option linter.unusedSimpArgs false

def ptConv (x : S38) : S45 := ⟨x.f0, x.f1⟩
theorem copy_pts (l : List S38) (h : l.length ≤ 1048576) : Ev (fun k => laws_toPointS.f k l) (l.map ptConv) := by
  have := copy_loop laws_toPointS.l0 ptConv z38 (fun k x0 x3 i h1 h2 => by
    simp only [laws_toPointS.l0, laws_toPoint.f, Option.bind_some]
    rw [if_pos (by omega), if_pos (by omega), if_pos (by omega)]
    rfl) (fun k x0 x3 => by simp only [laws_toPointS.l0]; rw [if_neg (by omega)]) l (by omega) (List.replicate l.length z45) (by simp)
  unfold laws_toPointS.f
  simp only [show (0 : Int) ≤ (l.length : Int) from by omega, if_true, Int.toNat_natCast, show l.length ≤ 17592186044416 from by omega]
  exact this
theorem same_ints (l : List Int) (h : l.length ≤ 1048576) : Ev (fun k => laws_eqIntS.f k l l) true := by
  unfold laws_eqIntS.f
  simp only [if_true]
  exact same_loop laws_eqIntS.l0 l (fun k i hi => by
    simp only [laws_eqIntS.l0, if_true]
    rw [if_pos (by omega), if_pos (by omega), if_pos (by omega)]) (fun k => by simp only [laws_eqIntS.l0]; rw [if_neg (by omega)]) (by omega)
theorem same_pts (l : List S45) (h : l.length ≤ 1048576) : Ev (fun k => laws_eqPointS.f k l l) true := by
  unfold laws_eqPointS.f
  simp only [if_true]
  exact same_loop laws_eqPointS.l0 l (fun k i hi => by
    simp only [laws_eqPointS.l0, laws_eqPoint.f, if_true, Option.bind_some]
    rw [if_pos (by omega), if_pos (by omega), if_pos (by omega)]) (fun k => by simp only [laws_eqPointS.l0]; rw [if_neg (by omega)]) (by omega)
theorem mark_pts (n : Nat) (hn : n ≤ 1048576) : ∀ (m i : Nat) (x : List S45), i + m = n → x.length = n → ∃ x', Ev (fun k => laws_markPointS.l0 k x (1 + 2 * (i : Int)) (i : Int)) (1 + 2 * (n : Int), x') := by
  intro m
  induction m with
  | zero =>
    intro i x hi hx
    obtain rfl : i = n := by omega
    exact ⟨x, ev_some fun k => by simp only [laws_markPointS.l0]; rw [if_neg (by omega)]⟩
  | succ m ih =>
    intro i x hi hx
    obtain ⟨x', h⟩ := ih (i + 1) _ (by omega) (show (((x.set i (⟨1 + 2 * (i : Int), (rd_T45 x (i : Int)).f1⟩ : S45))).set i (⟨(rd_T45 (x.set i (⟨1 + 2 * (i : Int), (rd_T45 x (i : Int)).f1⟩ : S45)) (i : Int)).f0, 1 + 2 * (i : Int) + 1⟩ : S45)).length = n by simpa using hx)
    refine ⟨x', ev_one (fun k => ?_) h⟩
    simp only [laws_markPointS.l0]
    rw [if_pos (by omega), if_pos (by omega)]
    simp only [Option.bind_some, Int.toNat_natCast]
    rw [wr (n := 1 + 2 * (i : Int) + 1) (by omega) (by omega), wr (by omega) (by omega), wr_succ i (by omega), show 1 + 2 * (i : Int) + 1 + 1 = 1 + 2 * ((i + 1 : Nat) : Int) by omega]
theorem mark_ints (n : Nat) (hn : n ≤ 1048576) : ∀ (m i : Nat) (x : List Int), i + m = n → x.length = n → (∀ j, j < i → rd x (j : Int) = 1 + (j : Int)) → ∃ x', Ev (fun k => laws_markIntS.l0 k x (1 + (i : Int)) (i : Int)) (1 + (n : Int), x') ∧ x'.length = n ∧ ∀ j, j < n → rd x' (j : Int) = 1 + (j : Int) := by
  intro m
  induction m with
  | zero =>
    intro i x hi hx hr
    obtain rfl : i = n := by omega
    exact ⟨x, ev_some fun k => by simp only [laws_markIntS.l0]; rw [if_neg (by omega)], hx, hr⟩
  | succ m ih =>
    intro i x hi hx hr
    obtain ⟨x', h, h1, h2⟩ := ih (i + 1) (x.set i (1 + (i : Int))) (by omega) (by simpa using hx) (fun j hj => by
      rw [rd_lt _ _ (by simp; omega), List.getElem_set]
      split
      · rename_i e; rw [e]
      · rw [← rd_lt _ _ (by omega)]; exact hr j (by omega))
    refine ⟨x', ev_one (fun k => ?_) h, h1, h2⟩
    simp only [laws_markIntS.l0]
    rw [if_pos (by omega), if_pos (by omega)]
    simp only [Int.toNat_natCast]
    rw [wr (n := 1 + (i : Int) + 1) (by omega) (by omega), wr_succ i (by omega)]
    congr 1
theorem held_ints (x : List Int) (hn : x.length ≤ 1048576) (h : ∀ j, j < x.length → rd x (j : Int) = 1 + (j : Int)) : Ev (fun k => laws_heldIntS.f k x 1) (1 + (x.length : Int)) := by
  have := ev_run0 (r := 1 + (x.length : Int)) (fun i k => laws_heldIntS.l0 k x (1 + (i : Int)) (i : Int)) x.length (fun i hi k => by
    show laws_heldIntS.l0 (k + 1) x (1 + (i : Int)) (i : Int) = laws_heldIntS.l0 k x (1 + ((i + 1 : Nat) : Int)) ((i + 1 : Nat) : Int)
    simp only [laws_heldIntS.l0]
    rw [if_pos (by omega), if_pos (by omega), if_pos (h i hi), wr (n := 1 + (i : Int) + 1) (by omega) (by omega), wr_succ i (by omega)]
    congr 1) (ev_some fun k => by
    show laws_heldIntS.l0 (k + 1) x (1 + (x.length : Int)) (x.length : Int) = _
    simp only [laws_heldIntS.l0]; rw [if_neg (by omega)])
  simpa [laws_heldIntS.f] using this

def ptOK (x y : Int) : Bool := decide (-100000 ≤ x ∧ x ≤ 100000 ∧ -100000 ≤ y ∧ y ≤ 100000)
theorem spec_pt (x y : Int) : spec_l03Point.f x y = some (ptOK x y) := by
  unfold spec_l03Point.f ptOK
  by_cases h1 : x ≥ -100000
  · rw [if_pos h1]
    by_cases h2 : x ≤ 100000
    · rw [if_pos h2]
      by_cases h3 : y ≥ -100000
      · rw [if_pos h3]; congr 1; rw [Bool.eq_iff_iff, decide_eq_true_eq, decide_eq_true_eq]; omega
      · rw [if_neg h3, decide_eq_false (by omega)]
    · rw [if_neg h2, decide_eq_false (by omega)]
  · rw [if_neg h1, decide_eq_false (by omega)]
theorem impl_pt (x y : Int) : impl_pointOK.f x y = some (ptOK x y) := spec_pt x y
def ptsOK (L : List S45) : Prop := ∀ i, i < L.length → ptOK (rd_T45 L (i : Int)).f0 (rd_T45 L (i : Int)).f1 = true
instance (L : List S45) : Decidable (ptsOK L) := by unfold ptsOK; exact inferInstance
theorem spec_pts (L : List S45) (h : L.length ≤ 1048576) : Ev (fun k => spec_l03Points.f k L) (decide (ptsOK L)) := by
  have key := all_loop (r := true) (bad := false) (fun i k => spec_l03Points.l0 k L (i : Int)) L.length (fun i => ptOK (rd_T45 L (i : Int)).f0 (rd_T45 L (i : Int)).f1)
    (fun i hi hp => ⟨0, fun k _ => by
      show spec_l03Points.l0 (k + 1) L (i : Int) = spec_l03Points.l0 k L ((i + 1 : Nat) : Int)
      simp only [spec_l03Points.l0, spec_pt, hp, Option.bind_some, if_true]
      rw [if_pos (by omega), if_pos (by omega), wr_succ i (by omega)]⟩)
    (fun i hi hp => ev_some fun k => by
      show spec_l03Points.l0 (k + 1) L (i : Int) = _
      simp only [spec_l03Points.l0, spec_pt, hp, Option.bind_some, Bool.false_eq_true, if_false]
      rw [if_pos (by omega), if_pos (by omega)])
    (fun _ => ev_some fun k => by
      show spec_l03Points.l0 (k + 1) L (L.length : Int) = _
      simp only [spec_l03Points.l0]; rw [if_neg (by omega)])
  have e : decide (ptsOK L) = if ptsOK L then true else false := by by_cases hc : ptsOK L <;> simp [hc]
  rw [e]; exact key

def dst (L : List S45) (x y : Int) (i : Nat) : Int := (((rd_T45 L (i : Int)).f0 - x).natAbs : Int) + (((rd_T45 L (i : Int)).f1 - y).natAbs : Int)
def scan (L : List S45) (v : List Bool) (x y : Int) : Nat → Int × Int
  | 0 => (-1, 0)
  | i + 1 => if rdOf false v (i : Int) = true then scan L v x y i else if (scan L v x y i).1 < 0 then ((i : Int), dst L x y i) else if dst L x y i < (scan L v x y i).2 then ((i : Int), dst L x y i) else scan L v x y i
theorem dst_ok {L : List S45} (hL : ptsOK L) {x y : Int} (hp : ptOK x y = true) (i : Nat) (hi : i < L.length) : 0 ≤ dst L x y i ∧ dst L x y i ≤ 400000 := by
  have a := of_decide_eq_true (hL i hi)
  have b := of_decide_eq_true hp
  unfold dst; omega
theorem abs1 (x : Int) (h0 : -1000000 ≤ x) (h1 : x ≤ 1000000) : spec_l01Abs.f x = some (x.natAbs : Int) := by
  unfold spec_l01Abs.f
  by_cases h : x < 0
  · rw [if_pos h, wr (by omega) (by omega)]; congr 1; omega
  · rw [if_neg h]; congr 1; omega
theorem abs2 (x : Int) (h0 : -1000000 ≤ x) (h1 : x ≤ 1000000) : impl_abs.f x = some (x.natAbs : Int) := by
  unfold impl_abs.f
  rw [wr (by omega) (by omega), mx_eq]; congr 1; omega
theorem scan_ok {L : List S45} (hL : ptsOK L) (v : List Bool) {x y : Int} (hp : ptOK x y = true) : ∀ i, i ≤ L.length →
    (0 ≤ (scan L v x y i).2 ∧ (scan L v x y i).2 ≤ 400000) ∧ (((scan L v x y i).1 = -1 ∧ ∀ k, k < i → rdOf false v (k : Int) = true) ∨ (0 ≤ (scan L v x y i).1 ∧ (scan L v x y i).1 < (i : Int))) := by
  intro i
  induction i with
  | zero => intro _; exact ⟨by simp [scan], .inl ⟨rfl, fun k hk => by omega⟩⟩
  | succ i ih =>
    intro hi
    obtain ⟨a, b⟩ := ih (by omega)
    have d := dst_ok hL hp i (by omega)
    unfold scan
    by_cases h1 : rdOf false v (i : Int) = true
    · simp only [if_pos h1]
      refine ⟨a, ?_⟩
      rcases b with ⟨b1, b2⟩ | b
      · refine .inl ⟨b1, fun k hk => ?_⟩
        rcases Nat.lt_or_ge k i with h | h
        · exact b2 k h
        · obtain rfl : k = i := by omega
          exact h1
      · exact .inr ⟨by omega, by omega⟩
    · simp only [if_neg h1]
      by_cases h2 : (scan L v x y i).1 < 0
      · simp only [if_pos h2]; exact ⟨d, .inr ⟨by omega, by omega⟩⟩
      · simp only [if_neg h2]
        by_cases h3 : dst L x y i < (scan L v x y i).2
        · simp only [if_pos h3]; exact ⟨d, .inr ⟨by omega, by omega⟩⟩
        · simp only [if_neg h3]
          refine ⟨a, .inr ?_⟩
          rcases b with ⟨b1, b2⟩ | b
          · omega
          · omega
structure St where
  v : List Bool
  out : List Int
  len : Int
  x : Int
  y : Int
def tour (L : List S45) (x y : Int) : Nat → St
  | 0 => ⟨List.replicate L.length false, [], 0, x, y⟩
  | j + 1 =>
    let s := tour L x y j
    let b := scan L s.v s.x s.y L.length
    ⟨s.v.set b.1.toNat true, s.out ++ [b.1], s.len + b.2, (rd_T45 L b.1).f0, (rd_T45 L b.1).f1⟩
structure Good (L : List S45) (j : Nat) (s : St) : Prop where
  vl : s.v.length = L.length
  cnt : s.v.count true ≤ j
  ol : s.out.length = j
  l0 : 0 ≤ s.len
  l1 : s.len ≤ j * 400000
  pt : ptOK s.x s.y = true
theorem good_scan {L : List S45} (hL : ptsOK L) {j : Nat} {s : St} (h : Good L j s) (hj : j < L.length) : 0 ≤ (scan L s.v s.x s.y L.length).1 ∧ (scan L s.v s.x s.y L.length).1 < (L.length : Int) := by
  obtain ⟨_, b⟩ := scan_ok hL s.v h.pt L.length (Nat.le_refl _)
  rcases b with ⟨b1, b2⟩ | b
  · exfalso
    have hall : s.v.count true = s.v.length := by
      rw [List.count_eq_length]
      intro b hb
      obtain ⟨k, hk, rfl⟩ := List.mem_iff_getElem.1 hb
      have := b2 k (by have := h.vl; omega)
      simpa [rdOf, hk] using this.symm
    have := h.vl; have := h.cnt; omega
  · exact b
theorem good_tour {L : List S45} (hL : ptsOK L) {x y : Int} (hp : ptOK x y = true) : ∀ j, j ≤ L.length → Good L j (tour L x y j) := by
  intro j
  induction j with
  | zero => intro _; exact ⟨by simp [tour], by simp [tour, List.count_replicate], rfl, by simp [tour], by simp [tour], hp⟩
  | succ j ih =>
    intro hj
    have g := ih (by omega)
    have b := good_scan hL g (by omega)
    obtain ⟨d, _⟩ := scan_ok hL (tour L x y j).v g.pt L.length (Nat.le_refl _)
    have hlt : (scan L (tour L x y j).v (tour L x y j).x (tour L x y j).y L.length).1.toNat < (tour L x y j).v.length := by have := g.vl; omega
    refine ⟨by simp [tour, g.vl], ?_, by simp [tour, g.ol], ?_, ?_, ?_⟩
    · simp only [tour]
      rw [List.count_set hlt]
      have := g.cnt
      split <;> split <;> omega
    · simp only [tour]; have := g.l0; omega
    · simp only [tour]; have := g.l1; omega
    · simp only [tour]
      have := hL (scan L (tour L x y j).v (tour L x y j).x (tour L x y j).y L.length).1.toNat (by omega)
      rwa [Int.toNat_of_nonneg b.1] at this
def probM (L : List S45) (x y : Int) : List Int × Int × Int :=
  if (L.length : Int) > 4096 then ([], 0, 2) else if L.length ≤ 200 ∧ ptsOK L ∧ ptOK x y = true then ((tour L x y L.length).out, (tour L x y L.length).len, 0) else ([], 0, 1)

theorem spec_round {L : List S45} (hL : ptsOK L) (hn : L.length ≤ 200) {j : Nat} {s : St} (g : Good L j s) (hj : j < L.length) {r : List Int × Int × Int}
    (h : Ev (fun k => spec_Probing.l0 k L (s.v.set (scan L s.v s.x s.y L.length).1.toNat true) (s.out ++ [(scan L s.v s.x s.y L.length).1]) (s.len + (scan L s.v s.x s.y L.length).2) (L.length : Int) ((j + 1 : Nat) : Int) (rd_T45 L (scan L s.v s.x s.y L.length).1).f0 (rd_T45 L (scan L s.v s.x s.y L.length).1).f1) r) :
    Ev (fun k => spec_Probing.l0 k L s.v s.out s.len (L.length : Int) (j : Int) s.x s.y) r := by
  have b := good_scan hL g hj
  obtain ⟨d, _⟩ := scan_ok hL s.v g.pt L.length (Nat.le_refl _)
  have gv := g.vl; have go := g.ol; have gl := g.l0; have gm := g.l1; have gp := of_decide_eq_true g.pt
  refine ev_one (f := fun k => spec_Probing.l1 k L s.v s.out s.len (-1) 0 0 (L.length : Int) (j : Int) s.x s.y) (fun k => by simp only [spec_Probing.l0]; rw [if_pos (by omega)]) ?_
  have := ev_run0 (r := r) (fun i k => spec_Probing.l1 k L s.v s.out s.len (scan L s.v s.x s.y i).1 (scan L s.v s.x s.y i).2 (i : Int) (L.length : Int) (j : Int) s.x s.y) L.length (fun i hi k => by
    show spec_Probing.l1 (k + 1) L s.v s.out s.len (scan L s.v s.x s.y i).1 (scan L s.v s.x s.y i).2 (i : Int) (L.length : Int) (j : Int) s.x s.y = spec_Probing.l1 k L s.v s.out s.len (scan L s.v s.x s.y (i + 1)).1 (scan L s.v s.x s.y (i + 1)).2 ((i + 1 : Nat) : Int) (L.length : Int) (j : Int) s.x s.y
    have q := of_decide_eq_true (hL i hi)
    have dd := dst_ok hL g.pt i hi
    have hd : wrap64 ((((rd_T45 L (i : Int)).f0 - s.x).natAbs : Int) + (((rd_T45 L (i : Int)).f1 - s.y).natAbs : Int)) = dst L s.x s.y i := by unfold dst at *; exact wr (by omega) (by omega)
    simp only [spec_Probing.l1]
    rw [if_pos (by omega), if_pos (by omega), wr (n := (rd_T45 L (i : Int)).f0 - s.x) (by omega) (by omega), wr (n := (rd_T45 L (i : Int)).f1 - s.y) (by omega) (by omega), abs1 _ (by omega) (by omega), abs1 _ (by omega) (by omega)]
    simp only [Option.bind_some, hd, wr_succ i (show i < 9223372036854775807 by omega)]
    rw [if_pos (by omega)]
    rw [scan]
    split
    · rfl
    · split
      · rfl
      · split <;> rfl) (ev_one (f := fun k => spec_Probing.l0 k L (s.v.set (scan L s.v s.x s.y L.length).1.toNat true) (s.out ++ [(scan L s.v s.x s.y L.length).1]) (s.len + (scan L s.v s.x s.y L.length).2) (L.length : Int) ((j + 1 : Nat) : Int) (rd_T45 L (scan L s.v s.x s.y L.length).1).f0 (rd_T45 L (scan L s.v s.x s.y L.length).1).f1) (fun k => by
    show spec_Probing.l1 (k + 1) L s.v s.out s.len (scan L s.v s.x s.y L.length).1 (scan L s.v s.x s.y L.length).2 (L.length : Int) (L.length : Int) (j : Int) s.x s.y = _
    simp only [spec_Probing.l1]
    rw [if_neg (by omega), if_pos (by omega), if_pos (by omega), if_pos (by omega), if_pos (by omega), wr (n := s.len + (scan L s.v s.x s.y L.length).2) (by omega) (by omega), wr_succ j (by omega)]) h)
  exact this
theorem spec_tour {L : List S45} (hL : ptsOK L) (hn : L.length ≤ 200) {x y : Int} (hp : ptOK x y = true) :
    Ev (fun k => spec_Probing.l0 k L (List.replicate L.length false) [] 0 (L.length : Int) 0 x y) ((tour L x y L.length).out, (tour L x y L.length).len, 0) := by
  have := ev_steps (r := ((tour L x y L.length).out, (tour L x y L.length).len, (0 : Int))) (fun j k => spec_Probing.l0 k L (tour L x y j).v (tour L x y j).out (tour L x y j).len (L.length : Int) (j : Int) (tour L x y j).x (tour L x y j).y) L.length
    (fun j hj h => spec_round hL hn (good_tour hL hp j (by omega)) hj h)
    (ev_some fun k => by
      show spec_Probing.l0 (k + 1) L _ _ _ (L.length : Int) (L.length : Int) _ _ = _
      simp only [spec_Probing.l0]; rw [if_neg (by omega)])
  exact this
theorem spec_prob (L : List S45) (x y : Int) (h : L.length ≤ 1048576) : Ev (fun k => spec_Probing.f k L x y) (probM L x y) := by
  unfold spec_Probing.f
  by_cases h1 : (L.length : Int) > 4096
  · simp only [if_pos h1, probM]; exact ev_const rfl
  simp only [if_neg h1]
  have stop : ¬ (L.length ≤ 200 ∧ ptsOK L ∧ ptOK x y = true) → Ev (fun k => spec_Probing.j0 k L true x y) (probM L x y) := fun hc => by
    unfold probM; rw [if_neg h1, if_neg hc]; exact ev_some fun k => by simp only [spec_Probing.j0, if_true]
  by_cases h2 : (L.length : Int) > 200
  · simp only [if_pos h2]; exact stop (by omega)
  simp only [if_neg h2]
  refine Ev.bind (spec_pts L h) ?_
  by_cases h3 : ptsOK L
  · simp only [decide_eq_true h3, if_true, spec_pt, Option.bind_some]
    by_cases h4 : ptOK x y = true
    · rw [h4]
      have e : probM L x y = ((tour L x y L.length).out, (tour L x y L.length).len, 0) := by unfold probM; rw [if_neg h1, if_pos ⟨by omega, h3, h4⟩]
      rw [e]
      refine ev_one (f := fun k => spec_Probing.l0 k L (List.replicate L.length false) [] 0 (L.length : Int) 0 x y) (fun k => ?_) (spec_tour h3 (by omega) h4)
      simp only [spec_Probing.j0, Bool.not_true, Bool.false_eq_true, if_false, Int.toNat_natCast]
      rw [if_pos (by omega), if_pos (by omega)]
    · rw [show ptOK x y = false by simpa using h4]
      exact stop fun hc => h4 hc.2.2
  · simp only [decide_eq_false h3, Bool.false_eq_true, if_false]; exact stop fun hc => h3 hc.2.1

theorem impl_round {L : List S45} (hL : ptsOK L) (hn : L.length ≤ 200) {j : Nat} {s : St} (g : Good L j s) (hj : j < L.length) {r : List Int × Int × Int}
    (h : Ev (fun k => impl_Probing.l1 k L (s.v.set (scan L s.v s.x s.y L.length).1.toNat true) (s.out ++ [(scan L s.v s.x s.y L.length).1]) (s.len + (scan L s.v s.x s.y L.length).2) (rd_T45 L (scan L s.v s.x s.y L.length).1).f0 (rd_T45 L (scan L s.v s.x s.y L.length).1).f1) r) :
    Ev (fun k => impl_Probing.l1 k L s.v s.out s.len s.x s.y) r := by
  have b := good_scan hL g hj
  obtain ⟨d, _⟩ := scan_ok hL s.v g.pt L.length (Nat.le_refl _)
  have gv := g.vl; have go := g.ol; have gl := g.l0; have gm := g.l1; have gp := of_decide_eq_true g.pt
  refine ev_one (f := fun k => impl_Probing.l2 k L s.v s.out s.len 0 (-1) L (L.length : Int) 0 s.x s.y) (fun k => by simp only [impl_Probing.l1]; rw [if_pos (by omega)]) ?_
  have := ev_run0 (r := r) (fun i k => impl_Probing.l2 k L s.v s.out s.len (scan L s.v s.x s.y i).2 (scan L s.v s.x s.y i).1 L (L.length : Int) (i : Int) s.x s.y) L.length (fun i hi k => by
    show impl_Probing.l2 (k + 1) L s.v s.out s.len (scan L s.v s.x s.y i).2 (scan L s.v s.x s.y i).1 L (L.length : Int) (i : Int) s.x s.y = impl_Probing.l2 k L s.v s.out s.len (scan L s.v s.x s.y (i + 1)).2 (scan L s.v s.x s.y (i + 1)).1 L (L.length : Int) ((i + 1 : Nat) : Int) s.x s.y
    have q := of_decide_eq_true (hL i hi)
    have dd := dst_ok hL g.pt i hi
    have hd : wrap64 ((((rd_T45 L (i : Int)).f0 - s.x).natAbs : Int) + (((rd_T45 L (i : Int)).f1 - s.y).natAbs : Int)) = dst L s.x s.y i := by unfold dst at *; exact wr (by omega) (by omega)
    simp only [impl_Probing.l2]
    rw [if_pos (by omega), if_pos (by omega), if_pos (by omega), wr (n := (rd_T45 L (i : Int)).f0 - s.x) (by omega) (by omega), wr (n := (rd_T45 L (i : Int)).f1 - s.y) (by omega) (by omega), abs2 _ (by omega) (by omega), abs2 _ (by omega) (by omega)]
    simp only [Option.bind_some, hd, wr_succ i (show i < 9223372036854775807 by omega)]
    rw [if_pos (by omega)]
    rw [scan]
    split
    · rfl
    · split
      · rfl
      · split <;> rfl) (ev_one (f := fun k => impl_Probing.l1 k L (s.v.set (scan L s.v s.x s.y L.length).1.toNat true) (s.out ++ [(scan L s.v s.x s.y L.length).1]) (s.len + (scan L s.v s.x s.y L.length).2) (rd_T45 L (scan L s.v s.x s.y L.length).1).f0 (rd_T45 L (scan L s.v s.x s.y L.length).1).f1) (fun k => by
    show impl_Probing.l2 (k + 1) L s.v s.out s.len (scan L s.v s.x s.y L.length).2 (scan L s.v s.x s.y L.length).1 L (L.length : Int) (L.length : Int) s.x s.y = _
    simp only [impl_Probing.l2]
    rw [if_neg (by omega), if_pos (by omega), if_pos (by omega), if_pos (by omega), if_pos (by omega), wr (n := s.len + (scan L s.v s.x s.y L.length).2) (by omega) (by omega)]) h)
  exact this
theorem impl_tour {L : List S45} (hL : ptsOK L) (hn : L.length ≤ 200) {x y : Int} (hp : ptOK x y = true) :
    Ev (fun k => impl_Probing.l1 k L (List.replicate L.length false) [] 0 x y) ((tour L x y L.length).out, (tour L x y L.length).len, 0) := by
  have := ev_steps (r := ((tour L x y L.length).out, (tour L x y L.length).len, (0 : Int))) (fun j k => impl_Probing.l1 k L (tour L x y j).v (tour L x y j).out (tour L x y j).len (tour L x y j).x (tour L x y j).y) L.length
    (fun j hj h => impl_round hL hn (good_tour hL hp j (by omega)) hj h)
    (ev_some fun k => by
      have := (good_tour hL hp L.length (Nat.le_refl _)).ol
      show impl_Probing.l1 (k + 1) L _ _ _ _ _ = _
      simp only [impl_Probing.l1]; rw [if_neg (by omega)])
  exact this
theorem impl_prob (L : List S45) (x y : Int) (h : L.length ≤ 1048576) : Ev (fun k => impl_Probing.f k L x y) (probM L x y) := by
  unfold impl_Probing.f
  by_cases h1 : (L.length : Int) > 4096
  · simp only [if_pos h1, probM]; exact ev_const rfl
  simp only [if_neg h1]
  have stop : ¬ (L.length ≤ 200 ∧ ptsOK L ∧ ptOK x y = true) → Ev (fun k => impl_Probing.j0 k L true x y) (probM L x y) := fun hc => by
    unfold probM; rw [if_neg h1, if_neg hc]; exact ev_some fun k => by simp only [impl_Probing.j0, if_true]
  by_cases h2 : (L.length : Int) > 200
  · simp only [if_pos h2]; exact stop (by omega)
  simp only [if_neg h2, impl_pt, Option.bind_some]
  by_cases h4 : ptOK x y = true
  · rw [h4]
    refine ev_one (f := fun k => impl_Probing.l0 k L L (L.length : Int) 0 x y) (fun k => by simp only [impl_Probing.j0, Bool.not_true, Bool.false_eq_true, if_false]) ?_
    have key := all_loop (r := ((tour L x y L.length).out, (tour L x y L.length).len, (0 : Int))) (bad := (([] : List Int), (0 : Int), (1 : Int))) (fun i k => impl_Probing.l0 k L L (L.length : Int) (i : Int) x y) L.length (fun i => ptOK (rd_T45 L (i : Int)).f0 (rd_T45 L (i : Int)).f1)
      (fun i hi hp => ⟨0, fun k _ => by
        show impl_Probing.l0 (k + 1) L L (L.length : Int) (i : Int) x y = impl_Probing.l0 k L L (L.length : Int) ((i + 1 : Nat) : Int) x y
        simp only [impl_Probing.l0, impl_pt, hp, Option.bind_some, if_true]
        rw [if_pos (by omega), if_pos (by omega), if_pos (by omega), wr_succ i (by omega)]⟩)
      (fun i hi hp => ev_some fun k => by
        show impl_Probing.l0 (k + 1) L L (L.length : Int) (i : Int) x y = _
        simp only [impl_Probing.l0, impl_pt, hp, Option.bind_some, Bool.false_eq_true, if_false]
        rw [if_pos (by omega), if_pos (by omega), if_pos (by omega)])
      (fun h3 => ev_one (f := fun k => impl_Probing.l1 k L (List.replicate L.length false) [] 0 x y) (fun k => by
        show impl_Probing.l0 (k + 1) L L (L.length : Int) (L.length : Int) x y = _
        simp only [impl_Probing.l0, Int.toNat_natCast]
        rw [if_neg (by omega), if_pos (by omega), if_pos (by omega)]) (impl_tour h3 (by omega) h4))
    have e : probM L x y = if ptsOK L then ((tour L x y L.length).out, (tour L x y L.length).len, (0 : Int)) else ([], 0, 1) := by
      unfold probM; rw [if_neg h1]
      by_cases hc : ptsOK L
      · rw [if_pos hc, if_pos ⟨by omega, hc, h4⟩]
      · rw [if_neg hc, if_neg fun hh => hc hh.2.1]
    rw [e]; exact key
  · rw [show ptOK x y = false by simpa using h4]
    exact stop fun hc => h4 hc.2.2
theorem prob_len (L : List S45) (x y : Int) : (probM L x y).1.length ≤ 200 := by
  unfold probM
  split
  · simp
  · split
    · rename_i h; simp only [(good_tour h.2.1 h.2.2 L.length (Nat.le_refl _)).ol]; exact h.1
    · simp

theorem FnExactProbing : laws_FnExactProbing.Plain := by
  intro l x y hl _ _
  refine Ev.rounds ?_
  have hl1 := hl.1
  unfold maxLen at hl1
  unfold laws_FnExactProbing.f laws_szPointS.f
  rw [wr (n := 1048576 - (l.length : Int)) (by omega) (by omega)]
  by_cases hs : 1048576 - (l.length : Int) < 0
  · simp only [if_pos hs, Option.bind_some]; exact ev_const (by simp)
  simp only [if_neg hs, Option.bind_some, laws_toPoint.f]
  have hc := copy_pts l (by omega)
  have sp := spec_prob (l.map ptConv) x y (by simp; omega)
  have ip := impl_prob (l.map ptConv) x y (by simp; omega)
  have hp := prob_len (l.map ptConv) x y
  revert sp ip hp
  generalize probM (l.map ptConv) x y = M
  obtain ⟨o, len, c⟩ := M
  intro sp ip hp
  have hp : o.length ≤ 200 := hp
  have so := same_ints o (by omega)
  refine Ev.bind hc ?_
  refine Ev.bind sp ?_
  refine Ev.bind hc ?_
  refine Ev.bind ip ?_
  refine Ev.bind so ?_
  simp only [if_true, bne_self_eq_false]
  obtain ⟨p', hm⟩ := mark_pts l.length (by omega) l.length 0 (l.map ptConv) (by omega) (by simp)
  obtain ⟨o', ho, ho1, ho2⟩ := mark_ints o.length (by omega) o.length 0 o (by omega) rfl (fun j hj => by omega)
  have hh := held_ints o' (by omega) (by rw [ho1]; exact ho2)
  rw [ho1] at hh
  have hm : Ev (fun k => laws_markPointS.f k (l.map ptConv) 1) (1 + 2 * (l.length : Int), p') := hm
  have ho : Ev (fun k => laws_markIntS.f k o 1) (1 + (o.length : Int), o') := ho
  have last : Ev (fun k => laws_FnExactProbing.j2 k o' (1 + (o.length : Int)) false) true := by
    refine ev_one (f := fun k => (laws_heldIntS.f k o' 1).bind fun t213 => (if t213 < 0 then (some false) else (if t213 = 1 + (o.length : Int) then (some true) else (some false)))) (fun k => by simp only [laws_FnExactProbing.j2, Bool.false_eq_true, if_false]) ?_
    refine Ev.bind hh ?_
    simp only [if_true]
    rw [if_neg (by omega)]; exact Ev.now _
  refine ev_one (f := fun k => (laws_toPointS.f k l).bind fun t192 => ((laws_eqPointS.f k (l.map ptConv) t192).bind fun t195 => (if t195 = true then ((laws_markPointS.f k (l.map ptConv) 1).bind fun bt196 => (if bt196.1 < 0 then (laws_FnExactProbing.j1 k l o len c o true x y) else ((laws_eqIntS.f k o o).bind fun t198 => (if t198 = true then (if len = len then (laws_FnExactProbing.j1 k l o len c o (c != c) x y) else (laws_FnExactProbing.j1 k l o len c o true x y)) else (laws_FnExactProbing.j1 k l o len c o true x y))))) else (some false)))) (fun k => by simp only [laws_FnExactProbing.j0, Bool.false_eq_true, if_false]) ?_
  refine Ev.bind hc ?_
  refine Ev.bind (same_pts (l.map ptConv) (by simp; omega)) ?_
  simp only [if_true, bne_self_eq_false]
  refine Ev.bind hm ?_
  simp only [if_neg (show ¬ 1 + 2 * (l.length : Int) < 0 by omega)]
  refine Ev.bind so ?_
  simp only [if_true]
  refine ev_one (f := fun k => (laws_markIntS.f k o 1).bind fun bt199 => ((laws_heldIntS.f k bt199.2 1).bind fun t201 => (if t201 < 0 then (some false) else (if t201 = bt199.1 then ((laws_toPointS.f k l).bind fun t202 => ((laws_toPoint.f x y).bind fun bt205 => ((impl_Probing.f k t202 bt205.1 bt205.2).bind fun bt207 => ((laws_eqIntS.f k bt207.1 o).bind fun t212 => (if t212 = true then (if bt207.2.1 = len then (laws_FnExactProbing.j2 k bt199.2 bt199.1 (bt207.2.2 != c)) else (laws_FnExactProbing.j2 k bt199.2 bt199.1 true)) else (laws_FnExactProbing.j2 k bt199.2 bt199.1 true)))))) else (some false))))) (fun k => by simp only [laws_FnExactProbing.j1, Bool.false_eq_true, if_false]) ?_
  refine Ev.bind ho ?_
  refine Ev.bind hh ?_
  simp only [if_neg (show ¬ 1 + (o.length : Int) < 0 by omega), if_true, laws_toPoint.f, Option.bind_some]
  refine Ev.bind hc ?_
  refine Ev.bind ip ?_
  refine Ev.bind so ?_
  simp only [if_true, bne_self_eq_false]
  exact last
end Go.Proofs.Ythcpdgiinmocaaa.Pure
