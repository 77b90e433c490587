/- A map of the call's own from pairs of whole numbers (an array of two) to true ('used[k] = true'; 'if used[k]'), as the list of the pairs that were put in: laws for the walk. -/
import Derived.Maps.Own
import Derived.Maps.Views
import Derived.DeepKeys5
import Derived.Test.YthmeijbiemkbaaaDoorProg
import Derived.Test.YthmeijbiemkbaaaDoorWWords
import Derived.Test.YthmeijbiemkbaaaDoorWMore
import Derived.Test.YthmeijbiemkbaaaDoorSeen
namespace Go.Proofs.YthmeijbiemkbaaaDoor.SeenPair
open Go Go.RowKit Go.Maps Go.WideMaps Go.Proofs.YthmeijbiemkbaaaDoorW.PrintWords
set_option linter.unusedVariables false

/-- A pair that the map is asked for. -/
def Small (a b : Int) : Prop := (0 ≤ a ∧ a < 1000) ∧ 0 ≤ b ∧ b < 1000
instance (a b : Int) : Decidable (Small a b) := inferInstanceAs (Decidable ((0 ≤ a ∧ a < 1000) ∧ 0 ≤ b ∧ b < 1000))
def inP (S : List (Int × Int)) (a b : Int) : Bool := S.any fun t => t.1 == a && t.2 == b
theorem inP_snoc (S : List (Int × Int)) (a b c d : Int) : inP (S ++ [(a, b)]) c d = (inP S c d || (a == c && b == d)) := by simp [inP, List.any_append]
def pairLit (t : Int × Int) : Lit := .string (keyBytes [.int .i64 t.1, .int .i64 t.2])
/-- What a program must have for keys that are arrays of two whole numbers. -/
structure PairKey (P : Program) (k : TypeId) : Prop where
  law : WideMaps.KeyLaw P k
  key : ∀ a b, Small a b → keyOf P k (.agg #[.int .i64 a, .int .i64 b]) = some (pairLit (a, b))
  inj : ∀ {a b : Value} {l : Lit}, keyOf P k a = some l → keyOf P k b = some l → a = b
theorem wf_small {a : Int} (h : 0 ≤ a ∧ a < 1000) : (Lit.int .i64 a).wf = true := by
  simp only [Lit.wf, IntKind.min, IntKind.max, IntKind.signed, IntKind.bits]
  simp
  omega
theorem pairKey {P : Program} {k i : TypeId} (hl : laidOutB P = true) (hsmall : P.types.size + 2 ≤ 10000) (hrow : k < P.types.size) (hkt : P.keyType k = true) (hk : P.underlying k = some (.array 2 i)) (hi : P.underlying i = some (.int .i64)) (hc : P.cellsOf k = 2) (hci : P.cellsOf i = 1) : PairKey P k := by
  have hwide : (match P.underlying k with | some (.array _ _) | some (.struct _) => true | _ => false) = true := by rw [hk]
  refine ⟨deep_law_gate hl hsmall hrow hkt hwide, fun a b hs => ?_, fun {a b l} h1 h2 => ?_⟩
  · obtain ⟨m, hm⟩ : ∃ m, P.types.size = m + 1 := ⟨P.types.size - 1, (Nat.succ_pred_eq_of_pos (Nat.lt_of_le_of_lt (Nat.zero_le _) hrow)).symm⟩
    have e : P.keyLits (P.types.size + 1) k [.int .i64 a, .int .i64 b] = some [.int .i64 a, .int .i64 b] := by
      rw [hm]
      have one : ∀ x, 0 ≤ x ∧ x < 1000 → P.keyLits (m + 1) i [.int .i64 x] = some [.int .i64 x] := fun x hx => by simp [Program.keyLits, hi, wf_small hx]
      have r2 : List.range 2 = [0, 1] := rfl
      have e1 := one a hs.1
      have e2 := one b hs.2
      unfold Program.keyLits
      simp [hk, hc, hci, r2, e1, e2]
    unfold keyOf
    rw [hk]
    simp [hkt, Value.formed, hk, hc, Value.cells, e, pairLit]
  · refine keyOf_inj_deep (m := P.types.size + 1) (tiled_of_laidOut hl _ k ?_ hkt) hwide h1 h2
    simp only [isVar, Bool.and_eq_true, decide_eq_true_eq]
    refine ⟨hrow, ?_⟩
    rw [hk]; rfl
def seenP (S : List (Int × Int)) : DataW Unit := S.foldl (fun D t => D.put (pairLit t) (.lit (.bool true))) (.map [])
theorem seenP_snoc (S : List (Int × Int)) (t : Int × Int) : seenP (S ++ [t]) = (seenP S).put (pairLit t) (.lit (.bool true)) := by simp [seenP, List.foldl_append]
theorem isMap_seenP (S : List (Int × Int)) : IsMap (seenP S) := by
  have key : ∀ (S : List (Int × Int)) (D : DataW Unit), IsMap D → IsMap (S.foldl (fun D t => D.put (pairLit t) (.lit (.bool true))) D) := by
    intro S
    induction S with
    | nil => intro D h; exact h
    | cons s S ih => intro D h; exact ih _ (h.put _ _)
  exact key S _ isMap_empty
theorem pair_ne {P : Program} {k : TypeId} (K : PairKey P k) {a b c d : Int} (h1 : Small a b) (h2 : Small c d) (h : ¬ (a = c ∧ b = d)) : pairLit (c, d) ≠ pairLit (a, b) := by
  intro e
  have e1 := K.key a b h1
  have e2 := K.key c d h2
  rw [e] at e2
  have := K.inj e1 e2
  injection this with this
  have t := congrArg Array.toList this
  simp at t
  exact h t
theorem seenP_at {P : Program} {k : TypeId} (K : PairKey P k) {c d : Int} (hs : Small c d) : ∀ (n : Nat) (S : List (Int × Int)), S.length = n → (∀ t ∈ S, Small t.1 t.2) → (seenP S).atKey (pairLit (c, d)) (.lit (.bool false)) = .lit (.bool (inP S c d)) := by
  intro n
  induction n with
  | zero =>
    intro S hS _
    obtain rfl : S = [] := List.eq_nil_of_length_eq_zero hS
    rfl
  | succ n ih =>
    intro S hS hall
    rcases List.eq_nil_or_concat S with rfl | ⟨S', ⟨a, b⟩, rfl⟩
    · simp at hS
    · rw [List.concat_eq_append] at hS hall ⊢
      have hab : Small a b := hall (a, b) (by simp)
      have hrest : ∀ t ∈ S', Small t.1 t.2 := fun t ht => hall t (by simp [ht])
      rw [seenP_snoc, inP_snoc]
      by_cases h : a = c ∧ b = d
      · obtain ⟨rfl, rfl⟩ := h
        rw [atKey_put_same (isMap_seenP S') (by trivial)]
        simp
      · rw [atKey_put_other (pair_ne K hab hs h), ih S' (by simpa using hS) hrest]
        have : (a == c && b == d) = false := by simpa using h
        rw [this, Bool.or_false]
/-- The object is a map that holds just these pairs. -/
def PairObj (P : Program) (k e : TypeId) (S : List (Int × Int)) (om : Obj) : Prop := PairKey P k ∧ (∀ t ∈ S, Small t.1 t.2) ∧ ∀ (w : World) (b : Nat), w.heap[b]? = some om → w.ownsMap P k (plainElem P e) b S.length (seenP S)
def PairAt (P : Program) (k e : TypeId) (B : Nat) (S : List (Int × Int)) (w : World) : Prop := ∃ om, w.heap[B]? = some om ∧ PairObj P k e S om
theorem pair_of {P : Program} {k e : TypeId} {w : World} {B : Nat} {S : List (Int × Int)} (K : PairKey P k) (hS : ∀ t ∈ S, Small t.1 t.2) (h : w.ownsMap P k (plainElem P e) B S.length (seenP S)) : PairAt P k e B S w := by
  obtain ⟨es, clock, hb, F, hs, hD⟩ := h
  exact ⟨_, hb, K, hS, fun w' b hb' => ⟨es, clock, hb', F, hs, hD⟩⟩
theorem pair_made {P : Program} {k e : TypeId} {w : World} {B : Nat} (K : PairKey P k) (h : w.heap[B]? = some (.map #[] 0)) : PairAt P k e B [] w :=
  ⟨_, h, K, fun _ h => by simp at h, fun w' b hb' => ⟨#[], 0, hb', ⟨by simp, MapKept.stamped_empty 0, by simp⟩, Nat.le_refl _, rfl⟩⟩
theorem pair_ne_cells {P : Program} {k e : TypeId} {S : List (Int × Int)} {om : Obj} {W : World} {B g : Nat} {cs : Array Value} {t : TypeId} (hs : PairObj P k e S om) (hg : W.heap[g]? = some (.cells cs t (0, 0))) (hB : W.heap[B]? = some om) : B ≠ g := by
  rintro rfl
  obtain ⟨_, _, h⟩ := hs
  obtain ⟨es, clock, hb, _⟩ := h W B hB
  rw [hg] at hb
  cases hb
theorem row_grown {α : Type} {d : Kd α} {e base : Nat} {ok : Nat → Prop} {w w1 : World} {v : Value} {xs : List α} {P : Program} {k e' : TypeId} {S : List (Int × Int)} {om : Obj} {B : Nat} (h : d.R e w base ok v xs) (hg : w.grownBy w1 (some B)) (hB : w.heap[B]? = some om) (hs : PairObj P k e' S om) : d.R e w1 base ok v xs :=
  Kd.R_mono (Kd.R_move (Kd.R_bound h) (fun j hj => by
    obtain ⟨_, _, hlt, q, _, cells, hc⟩ := hj
    exact hg.block j hlt (fun e_ => pair_ne_cells hs hc hB (Option.some.inj e_).symm))) (fun j hj => hj.1)
section
variable {P : Program} {ops : Array Oper} {rest : List Oper} {o : Oper} {a : Act} {Q : Exit → Act → World → Prop} {W : World}
theorem wpList_lookup_pair (hgd : o.guard = none) {m x : Operand} {t k e : TypeId} (hop : o.op = Op.lookup t m x false) (ht : P.underlying t = some (.map k e)) (he : P.underlying e = some .bool)
    (hz : (zeroValue e).run P W = .ok (.bool false) W) (B : Nat) (S : List (Int × Int)) (om : Obj) (hB : W.heap[B]? = some om) (hS : PairObj P k e S om) (p q : Int) (hs : Small p q)
    (hm : a.eval m = .map (some B)) (hx : a.eval x = .agg #[.int .i64 p, .int .i64 q])
    (h : wpList P ops Q rest (a.put o.dst (.bool (inP S p q))) W) : wpList P ops Q (o :: rest) a W := by
  obtain ⟨K, hall, hS⟩ := hS
  obtain ⟨v, ps, hrun, hv⟩ := (hS W B hB).lookup (Keyed.of_law K.law) ht hz (plainElem_bool he false) (K.key p q hs)
  obtain ⟨c, rfl, hc⟩ := Seen.plainElem_bool_inv he hv
  rw [seenP_at K hs _ S rfl hall] at hc
  simp only [Prod.mk.injEq, DataW.lit.injEq, Lit.bool.injEq] at hc
  obtain ⟨rfl, _⟩ := hc
  refine wpList_plain hgd fun K' hK' => ?_
  unfold Oper.wp
  simp [execOp, hop, hm, hx, hrun, Result.andThen]
  exact hK' _ _ h
theorem wpList_update_pair (hgd : o.guard = none) {m x v : Operand} {t k e : TypeId} (hop : o.op = Op.mapUpdate t m x v) (ht : P.underlying t = some (.map k e)) (he : P.underlying e = some .bool)
    (B : Nat) (S : List (Int × Int)) (om : Obj) (hB : W.heap[B]? = some om) (hS : PairObj P k e S om) (p q : Int) (hs : Small p q) (hl : S.length < 1000)
    (hm : a.eval m = .map (some B)) (hx : a.eval x = .agg #[.int .i64 p, .int .i64 q]) (hv : a.eval v = .bool true)
    (h : ∀ w1, PairAt P k e B (S ++ [(p, q)]) w1 → W.grownBy w1 (some B) → wpList P ops Q rest (a.put o.dst undef) w1) : wpList P ops Q (o :: rest) a W := by
  obtain ⟨K, hall, hS⟩ := hS
  refine wpList_mapUpdate_own W hgd m x v t hop k e (Keyed.of_law K.law) ht (plainElem P e) B S.length (seenP S) hm (hS W B hB) (by unfold maxLen; omega) _ _ _ hx hv (K.key p q hs) (.lit (.bool true)) [] (plainElem_bool he true) ?_
  intro w' h1 h2
  refine h w' (pair_of K (fun t ht => ?_) ?_) h2
  · rcases List.mem_append.mp ht with h | h
    · exact hall t h
    · rw [List.mem_singleton.mp h]; exact hs
  · rw [seenP_snoc, List.length_append]
    exact h1
end
end Go.Proofs.YthmeijbiemkbaaaDoor.SeenPair
