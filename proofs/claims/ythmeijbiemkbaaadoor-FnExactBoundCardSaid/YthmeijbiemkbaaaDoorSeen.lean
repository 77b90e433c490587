/- A map of the call's own from strings to true ('seen[name] = true'; 'if seen[name]'), as the list of the names that were put in: laws for the walk. -/
import Derived.Maps.Own
import Derived.Maps.Views
import Derived.Test.YthmeijbiemkbaaaDoorWWords
import Derived.Test.YthmeijbiemkbaaaDoorWMore
namespace Go.Proofs.YthmeijbiemkbaaaDoor.Seen
open Go Go.RowKit Go.Maps Go.WideMaps Go.Proofs.YthmeijbiemkbaaaDoorW.PrintWords
set_option linter.unusedVariables false

/-- Whether a name is among those that were put in. -/
def inB (S : List ByteArray) (s : ByteArray) : Bool := S.any fun t => t.data.toList == s.data.toList
/-- What the map reads as. -/
def seenD (S : List ByteArray) : DataW Unit := S.foldl (fun D t => D.put (.string t.data.toList) (.lit (.bool true))) (.map [])
theorem seenD_snoc (S : List ByteArray) (s : ByteArray) : seenD (S ++ [s]) = (seenD S).put (.string s.data.toList) (.lit (.bool true)) := by simp [seenD, List.foldl_append]
theorem inB_snoc (S : List ByteArray) (s t : ByteArray) : inB (S ++ [s]) t = (inB S t || s.data.toList == t.data.toList) := by simp [inB, List.any_append]
theorem isMap_seenD (S : List ByteArray) : IsMap (seenD S) := by
  have key : ∀ (S : List ByteArray) (D : DataW Unit), IsMap D → IsMap (S.foldl (fun D t => D.put (.string t.data.toList) (.lit (.bool true))) D) := by
    intro S
    induction S with
    | nil => intro D h; exact h
    | cons s S ih => intro D h; exact ih _ (h.put _ _)
  exact key S _ isMap_empty
theorem seenD_at (s : ByteArray) : ∀ (n : Nat) (S : List ByteArray), S.length = n → (seenD S).atKey (.string s.data.toList) (.lit (.bool false)) = .lit (.bool (inB S s)) := by
  intro n
  induction n with
  | zero =>
    intro S hS
    obtain rfl : S = [] := List.eq_nil_of_length_eq_zero hS
    rfl
  | succ n ih =>
    intro S hS
    rcases List.eq_nil_or_concat S with rfl | ⟨S', t, rfl⟩
    · simp at hS
    · rw [List.concat_eq_append] at hS ⊢
      rw [seenD_snoc, inB_snoc]
      by_cases h : t.data.toList = s.data.toList
      · rw [h, atKey_put_same (isMap_seenD S') (by trivial)]
        simp
      · have e : (Lit.string s.data.toList) ≠ Lit.string t.data.toList := fun h' => h (Lit.string.inj h').symm
        rw [atKey_put_other e, ih S' (by simpa using hS)]
        have : (t.data.toList == s.data.toList) = false := by simpa using h
        rw [this, Bool.or_false]
/-- The object is a map that holds just these names. -/
def SeenObj (P : Program) (k e : TypeId) (S : List ByteArray) (om : Obj) : Prop := ∀ (w : World) (b : Nat), w.heap[b]? = some om → w.ownsMap P k (plainElem P e) b S.length (seenD S)
def SeenAt (P : Program) (k e : TypeId) (B : Nat) (S : List ByteArray) (w : World) : Prop := ∃ om, w.heap[B]? = some om ∧ SeenObj P k e S om
theorem seen_of {P : Program} {k e : TypeId} {w : World} {B : Nat} {S : List ByteArray} (h : w.ownsMap P k (plainElem P e) B S.length (seenD S)) : SeenAt P k e B S w := by
  obtain ⟨es, clock, hb, F, hs, hD⟩ := h
  exact ⟨_, hb, fun w' b hb' => ⟨es, clock, hb', F, hs, hD⟩⟩
theorem seen_made {P : Program} {k e : TypeId} {w : World} {B : Nat} (h : w.heap[B]? = some (.map #[] 0)) : SeenAt P k e B [] w :=
  ⟨_, h, fun w' b hb' => ⟨#[], 0, hb', ⟨by simp, MapKept.stamped_empty 0, by simp⟩, Nat.le_refl _, rfl⟩⟩
theorem obj_far {w : World} {g : Nat} {o : Obj} (h : w.heap[g]? = some o) {p : Addr} (hp : g ≠ p.block) (u : Value) : (w.setCell p u).heap[g]? = some o := (Below.heap_setCell w p u g hp).trans h
theorem plainElem_bool_inv {H : Type} {P : Program} {e : TypeId} (he : P.underlying e = some .bool) {v : Value} {z : DataW H × List MemPlace} (h : plainElem P e v = some z) : ∃ c, v = .bool c ∧ z = (.lit (.bool c), []) := by
  unfold plainElem at h
  rw [he] at h
  cases v <;> simp at h
  exact ⟨_, rfl, h.symm⟩
section
variable {P : Program} {ops : Array Oper} {rest : List Oper} {o : Oper} {a : Act} {Q : Exit → Act → World → Prop} {W : World}
theorem make_event (hgd : o.guard = none) {t : TypeId} (hop : o.op = Op.makeMap t none)
    (h : ∀ g, g = W.heap.size → ∀ w1, w1.heap[g]? = some (.map #[] 0) → Below W.heap.size W w1 → wpList P ops Q rest (a.put o.dst (.map (some g))) w1) : wpList P ops Q (o :: rest) a W :=
  Kd.event_run hgd (v := .map (some W.heap.size)) (w1 := W.alloc (.map #[] 0)) (by simp [execOp, hop, run_makeMap, Result.andThen]) (h _ rfl _ (blk_new W _) (below_alloc (Below.refl _ _) _))
theorem wpList_lookup_seen (hgd : o.guard = none) {m x : Operand} {t k e : TypeId} (hop : o.op = Op.lookup t m x false) (hk : P.underlying k = some .string) (ht : P.underlying t = some (.map k e)) (he : P.underlying e = some .bool)
    (hz : (zeroValue e).run P W = .ok (.bool false) W) (B : Nat) (S : List ByteArray) (om : Obj) (hB : W.heap[B]? = some om) (hS : SeenObj P k e S om) (s : ByteArray) (hs : s.size ≤ 40)
    (hm : a.eval m = .map (some B)) (hx : a.eval x = .string s)
    (h : wpList P ops Q rest (a.put o.dst (.bool (inB S s))) W) : wpList P ops Q (o :: rest) a W := by
  obtain ⟨v, ps, hrun, hv⟩ := (hS W B hB).lookup (string_keyed hk) ht hz (plainElem_bool he false) (keyOf_string_mk hk (s := s) (by unfold maxLen; omega))
  obtain ⟨c, rfl, hc⟩ := plainElem_bool_inv he hv
  rw [seenD_at s _ S rfl] at hc
  simp only [Prod.mk.injEq, DataW.lit.injEq, Lit.bool.injEq] at hc
  obtain ⟨rfl, _⟩ := hc
  refine wpList_plain hgd fun K' hK' => ?_
  unfold Oper.wp
  simp [execOp, hop, hm, hx, hrun, Result.andThen]
  exact hK' _ _ h
theorem wpList_update_seen (hgd : o.guard = none) {m x v : Operand} {t k e : TypeId} (hop : o.op = Op.mapUpdate t m x v) (hk : P.underlying k = some .string) (ht : P.underlying t = some (.map k e)) (he : P.underlying e = some .bool)
    (B : Nat) (S : List ByteArray) (om : Obj) (hB : W.heap[B]? = some om) (hS : SeenObj P k e S om) (s : ByteArray) (hs : s.size ≤ 40) (hl : S.length < 1000)
    (hm : a.eval m = .map (some B)) (hx : a.eval x = .string s) (hv : a.eval v = .bool true)
    (h : ∀ w1, SeenAt P k e B (S ++ [s]) w1 → W.grownBy w1 (some B) → wpList P ops Q rest (a.put o.dst undef) w1) : wpList P ops Q (o :: rest) a W := by
  refine wpList_mapUpdate_own W hgd m x v t hop k e (string_keyed hk) ht (plainElem P e) B S.length (seenD S) hm (hS W B hB) (by unfold maxLen; omega) _ _ _ hx hv (keyOf_string_mk hk (s := s) (by unfold maxLen; omega)) (.lit (.bool true)) [] (plainElem_bool he true) ?_
  intro w' h1 h2
  refine h w' (seen_of ?_) h2
  rw [seenD_snoc, List.length_append]
  exact h1
end
end Go.Proofs.YthmeijbiemkbaaaDoor.Seen
