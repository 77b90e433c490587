/- What an argument reads as: every value that can be read as data of a type is the value of a plain Lean datum, by the type's shape. -/
import Derived.Test.YtgmbbcnfcddamaaWWords
import Derived.Test.YtgmbbcnfcddamaaWMore
import Derived.ChangeArms
import Derived.Deep.Slices
import Derived.WideShapes
import Derived.Laws.Cover2
namespace Go.Proofs.Ytgmbbcnfcddamaa.Opens
open Go.RowKit Go.WideShapes Go.Proofs.YtgmbbcnfcddamaaW.PrintWords
set_option linter.unusedVariables false

/-- A type's readable values, told as data of a kind. -/
structure Opens (P : Program) (t : TypeId) {α : Type} (d : Kd α) (wf : α → Prop) : Prop where
  sz : P.cellsOf t = d.sz
  out : ∀ {H : Type} {enc : TypeId × Value → H} {w : World} {base : Nat} {spare : Nat → Bool} {held : Bool} {fuel : Nat} {cs : List Value} {x : DataW H × List MemPlace},
    DataW.trod enc P w base spare held fuel t cs = some x → ∃ a : α, d.K w a cs ∧ wf a

/-- The fields of a struct from a place on. -/
structure OpensF (P : Program) (fs : List Field) (off : Nat) {α : Type} (d : Kd α) (wf : α → Prop) : Prop where
  out : ∀ {H : Type} {enc : TypeId × Value → H} {w : World} {base : Nat} {spare : Nat → Bool} {held : Bool} {fuel : Nat} {cs : List Value} {xs : List (DataW H × List MemPlace)},
    (∀ (i : Nat) (f : Field), fs[i]? = some f → ∃ x, DataW.trod enc P w base spare held fuel f.type ((cs.drop f.offset).take (P.cellsOf f.type)) = some x) → off + d.sz ≤ cs.length →
    ∃ a : α, d.K w a ((cs.drop off).take d.sz) ∧ wf a

section
variable {P : Program} {t e : TypeId}

theorem Opens.int {k : IntKind} (ht : P.underlying t = some (.int k)) (hc : P.cellsOf t = 1) : Opens P t (Kd.int k) (fun x => (Lit.int k x).wf = true) :=
  ⟨hc, fun h => by
    obtain ⟨n, rfl, _, hw⟩ := DataW.trod_int ht h
    exact ⟨n, rfl, hw⟩⟩
theorem Opens.bool (ht : P.underlying t = some .bool) (hc : P.cellsOf t = 1) : Opens P t Kd.bool (fun _ => True) :=
  ⟨hc, fun h => by
    obtain ⟨n, rfl, _⟩ := DataW.trod_bool ht h
    exact ⟨n, rfl, trivial⟩⟩
theorem Opens.string (ht : P.underlying t = some .string) (hc : P.cellsOf t = 1) : Opens P t Kd.string (fun s => s.size ≤ maxLen) :=
  ⟨hc, fun h => by
    obtain ⟨n, rfl, _, hs⟩ := DataW.trod_string ht h
    exact ⟨n, rfl, hs⟩⟩
theorem Opens.iso {α β : Type} {d : Kd α} {wf : α → Prop} (f : β → α) (g : α → β) (hg : ∀ a, f (g a) = a) (h : Opens P t d wf) : Opens P t (Kd.iso d f) (fun b => wf (f b)) :=
  ⟨h.sz, fun h0 => by
    obtain ⟨a, hk, hw⟩ := h.out h0
    exact ⟨g a, by show d.K _ (f (g a)) _; rw [hg]; exact hk, by rw [hg]; exact hw⟩⟩
theorem Opens.slice {α : Type} {d : Kd α} {wf : α → Prop} (z : α) (ht : P.underlying t = some (.slice e)) (hc : P.cellsOf t = 1) (h : Opens P e d wf) : Opens P t (Kd.slice e d) (fun l => l.length ≤ maxLen ∧ ∀ x ∈ l, wf x) :=
  ⟨hc, fun {H enc w base spare held fuel cs x} h0 => by
    rcases Go.Deep.open_slice ht h0 with ⟨rfl, _⟩ | ⟨a, len, cap, m, n, D, Pl, rfl, hb, hl, hm, hmm, _, hx⟩
    · refine ⟨[], ⟨none, 0, rfl, Nat.le_refl _, ?_⟩, by simp, by simp⟩
      exact ⟨rfl, by simp, fun hn => absurd hn (by simp)⟩
    · have hlm : len ≤ m := by rw [hmm]; split <;> omega
      have each : ∀ i, i < len → ∃ q : α × List Value, (q.2.length = d.sz ∧ (∀ j u, q.2[j]? = some u → w.cell? (a.add (i * d.sz + j)) = some u)) ∧ d.K w q.1 q.2 ∧ wf q.1 := by
        intro i hi
        obtain ⟨cs', h1, h2⟩ := hx i (by omega)
        obtain ⟨y, hk, hw⟩ := h.out h2
        rw [h.sz] at h1
        obtain ⟨_, hlen, hcell⟩ := World.cells?_some h1
        refine ⟨(y, cs'), ⟨hlen, fun j u hj => ?_⟩, hk, hw⟩
        have hj1 : j < cs'.length := (List.getElem?_eq_some_iff.1 hj).1
        have e1 := hcell j (by omega)
        rw [Go.Deep.add_add] at e1
        rw [e1]; exact hj
      haveI : Inhabited (α × List Value) := ⟨(z, [])⟩
      obtain ⟨q, hq⟩ := Go.Deep.choose_lt each
      have hmx : len ≤ maxLen := by omega
      have hget : ∀ (j : Nat) (p : α), ((List.range len).map fun i => (q i).1)[j]? = some p → j < len ∧ p = (q j).1 := by
        intro j p hj
        rw [List.getElem?_map] at hj
        cases hr : (List.range len)[j]? with
        | none => rw [hr] at hj; simp at hj
        | some v =>
          rw [hr] at hj
          obtain ⟨hlt, hv⟩ := List.getElem?_eq_some_iff.1 hr
          rw [List.length_range] at hlt
          rw [List.getElem_range] at hv
          subst hv
          exact ⟨hlt, by simpa using hj.symm⟩
      refine ⟨(List.range len).map fun i => (q i).1, ⟨some a, cap, by simp, by simpa using hl, ?_⟩, by simpa using hmx, ?_⟩
      · refine ⟨rfl, by simp; unfold maxLen at hmx; omega, fun _ => ⟨a, rfl, fun j p hj => ?_⟩⟩
        obtain ⟨hlt, rfl⟩ := hget j p hj
        obtain ⟨⟨h1, h2⟩, h3, _⟩ := hq j hlt
        exact ⟨(q j).2, h1, h3, h2⟩
      · intro p hp
        rw [List.mem_map] at hp
        obtain ⟨i, hi, rfl⟩ := hp
        exact (hq i (List.mem_range.1 hi)).2.2⟩

theorem OpensF.one {α : Type} {d : Kd α} {wf : α → Prop} {f : Field} {off : Nat} (ho : f.offset = off) (h : Opens P f.type d wf) : OpensF P [f] off d wf :=
  ⟨fun hx hl => by
    obtain ⟨x, h0⟩ := hx 0 f rfl
    rw [ho, h.sz] at h0
    exact h.out h0⟩
theorem OpensF.cons {α β : Type} {d : Kd α} {d' : Kd β} {wf : α → Prop} {wf' : β → Prop} {f : Field} {fs : List Field} {off : Nat} (ho : f.offset = off) (h : Opens P f.type d wf) (h' : OpensF P fs (off + d.sz) d' wf') :
    OpensF P (f :: fs) off (Kd.pair d d') (fun x => wf x.1 ∧ wf' x.2) :=
  ⟨fun {H enc w base spare held fuel cs xs} hx hl => by
    have hl0 : off + (d.sz + d'.sz) ≤ cs.length := hl
    obtain ⟨x, h0⟩ := hx 0 f rfl
    rw [ho, h.sz] at h0
    obtain ⟨a, ka, wa⟩ := h.out h0
    obtain ⟨b, kb, wb⟩ := h'.out (cs := cs) (xs := []) (fun i g hg => hx (i + 1) g (by simpa using hg)) (by omega)
    refine ⟨(a, b), ⟨_, _, ?_, ka, kb⟩, wa, wb⟩
    show (cs.drop off).take (d.sz + d'.sz) = _
    rw [List.take_add, List.drop_drop]⟩
theorem Opens.struct {α : Type} {d : Kd α} {wf : α → Prop} {l : List Field} (ht : P.underlying t = some (.struct l.toArray)) (hc : P.cellsOf t = d.sz) (h : OpensF P l 0 d wf) : Opens P t d wf :=
  ⟨hc, fun {H enc w base spare held fuel cs x} h0 => by
    obtain ⟨xs, n, _, _, hl, hlen, hf⟩ := DataW.trod_struct ht h0
    obtain ⟨a, ka, wa⟩ := h.out (fuel := n) (cs := cs) (xs := xs) (fun i f hi => by
      have hi' : l.toArray[i]? = some f := by simpa using hi
      rw [hf i f hi']
      have : i < xs.length := by rw [hlen]; exact (Array.getElem?_eq_some_iff.1 hi').1
      exact ⟨_, List.getElem?_eq_getElem this⟩) (by rw [Nat.zero_add, ← hc, hl]; exact Nat.le_refl _)
    refine ⟨a, ?_, wa⟩
    rw [List.drop_zero, ← hc, ← hl, List.take_length] at ka
    exact ka⟩
end

/-- An argument that is a struct: its cells. -/
theorem agg_cells {P : Program} {w : World} {r : Reach} {base : Nat} {t : TypeId} {fs : Array Field} {v : Value} (ht : P.underlying t = some (.struct fs)) (hv : Value.okWide P w r base t v) : ∃ cs : Array Value, v = .agg cs ∧ v.cells.toList = cs.toList := by
  obtain ⟨cs, rfl, _⟩ := okWide_struct ht hv
  exact ⟨cs, rfl, rfl⟩
end Go.Proofs.Ytgmbbcnfcddamaa.Opens
