/- A map of the call's own from whole numbers to true ('level[z] = true'; 'if level[z]'), as the list of the numbers that were put in: laws for the walk. -/
import Derived.Maps.Own
import Derived.Maps.Views
import Derived.Test.YtgmbbcnfcddamaaWWords
import Derived.Test.YtgmbbcnfcddamaaWMore
import Derived.Test.YtgmbbcnfcddamaaWLast
namespace Go.Proofs.Ytgmbbcnfcddamaa.SeenInt
open Go Go.RowKit Go.Maps Go.WideMaps Go.Proofs.YtgmbbcnfcddamaaW.PrintWords Go.Proofs.YtgmbbcnfcddamaaW.PrintLast
set_option linter.unusedVariables false

/-- A number that the map is asked for. -/
def Small (a : Int) : Prop := 0 ≤ a ∧ a < 1000
instance (a : Int) : Decidable (Small a) := inferInstanceAs (Decidable (0 ≤ a ∧ a < 1000))
/-- Whether a number is among those that were put in. -/
def inI (S : List Int) (s : Int) : Bool := S.any fun t => t == s
def seenI (S : List Int) : DataW Unit := S.foldl (fun D t => D.put (.int .i64 t) (.lit (.bool true))) (.map [])
theorem seenI_snoc (S : List Int) (s : Int) : seenI (S ++ [s]) = (seenI S).put (.int .i64 s) (.lit (.bool true)) := by simp [seenI, List.foldl_append]
theorem inI_snoc (S : List Int) (s t : Int) : inI (S ++ [s]) t = (inI S t || s == t) := by simp [inI, List.any_append]
theorem isMap_seenI (S : List Int) : IsMap (seenI S) := by
  have key : ∀ (S : List Int) (D : DataW Unit), IsMap D → IsMap (S.foldl (fun D t => D.put (.int .i64 t) (.lit (.bool true))) D) := by
    intro S
    induction S with
    | nil => intro D h; exact h
    | cons s S ih => intro D h; exact ih _ (h.put _ _)
  exact key S _ isMap_empty
theorem seenI_at (s : Int) : ∀ (n : Nat) (S : List Int), S.length = n → (seenI S).atKey (.int .i64 s) (.lit (.bool false)) = .lit (.bool (inI S s)) := by
  intro n
  induction n with
  | zero =>
    intro S hS
    obtain rfl : S = [] := List.eq_nil_of_length_eq_zero hS
    rfl
  | succ n ih =>
    intro S hS
    rcases List.eq_nil_or_concat S with rfl | ⟨S', t, rfl⟩
    · simp at hS
    · rw [List.concat_eq_append] at hS ⊢
      rw [seenI_snoc, inI_snoc]
      by_cases h : t = s
      · rw [h, atKey_put_same (isMap_seenI S') (by trivial)]
        simp
      · have e : (Lit.int .i64 s) ≠ Lit.int .i64 t := fun h' => h (by injection h' with _ h'; exact h'.symm)
        rw [atKey_put_other e, ih S' (by simpa using hS)]
        have : (t == s) = false := by simpa using h
        rw [this, Bool.or_false]
theorem wf_small {a : Int} (h : Small a) : (Lit.int .i64 a).wf = true := by
  obtain ⟨h1, h2⟩ := h
  simp only [Lit.wf, IntKind.min, IntKind.max, IntKind.signed, IntKind.bits]
  simp
  omega
/-- The object is a map that holds just these numbers. -/
def IntObj (P : Program) (k e : TypeId) (S : List Int) (om : Obj) : Prop := ∀ (w : World) (b : Nat), w.heap[b]? = some om → w.ownsMap P k (plainElem P e) b S.length (seenI S)
def IntAt (P : Program) (k e : TypeId) (B : Nat) (S : List Int) (w : World) : Prop := ∃ om, w.heap[B]? = some om ∧ IntObj P k e S om
theorem seen_of {P : Program} {k e : TypeId} {w : World} {B : Nat} {S : List Int} (h : w.ownsMap P k (plainElem P e) B S.length (seenI S)) : IntAt P k e B S w := by
  obtain ⟨es, clock, hb, F, hs, hD⟩ := h
  exact ⟨_, hb, fun w' b hb' => ⟨es, clock, hb', F, hs, hD⟩⟩
theorem int_made {P : Program} {k e : TypeId} {w : World} {B : Nat} (h : w.heap[B]? = some (.map #[] 0)) : IntAt P k e B [] w :=
  ⟨_, h, fun w' b hb' => ⟨#[], 0, hb', ⟨by simp, MapKept.stamped_empty 0, by simp⟩, Nat.le_refl _, rfl⟩⟩
theorem obj_far {w : World} {g : Nat} {o : Obj} (h : w.heap[g]? = some o) {p : Addr} (hp : g ≠ p.block) (u : Value) : (w.setCell p u).heap[g]? = some o := (Below.heap_setCell w p u g hp).trans h
theorem plainElem_bool_inv {H : Type} {P : Program} {e : TypeId} (he : P.underlying e = some .bool) {v : Value} {z : DataW H × List MemPlace} (h : plainElem P e v = some z) : ∃ c, v = .bool c ∧ z = (.lit (.bool c), []) := by
  unfold plainElem at h
  rw [he] at h
  cases v <;> simp at h
  exact ⟨_, rfl, h.symm⟩
theorem int_ne_cells {P : Program} {k e : TypeId} {S : List Int} {om : Obj} {W : World} {B g : Nat} {cs : Array Value} {t : TypeId} (hs : IntObj P k e S om) (hg : W.heap[g]? = some (.cells cs t (0, 0))) (hB : W.heap[B]? = some om) : B ≠ g := by
  rintro rfl
  obtain ⟨_, _, hb, _⟩ := hs W B hB
  rw [hg] at hb
  cases hb
theorem int_ne_row {P : Program} {k e e' : TypeId} {S : List Int} {om : Obj} {W : World} {B : Nat} {v : Value} (hs : IntObj P k e S om) (hB : W.heap[B]? = some om) (hr : ∀ k, v.ownBlock = some k → ∃ cells, W.heap[k]? = some (.cells cells e' (0, 0))) : some B ≠ v.ownBlock := fun h => by
  obtain ⟨_, hc⟩ := hr B h.symm
  exact int_ne_cells hs hc hB rfl
theorem row_grown {α : Type} {d : Kd α} {e base : Nat} {ok : Nat → Prop} {w w1 : World} {v : Value} {xs : List α} {P : Program} {k e' : TypeId} {S : List Int} {om : Obj} {B : Nat} (h : d.R e w base ok v xs) (hg : w.grownBy w1 (some B)) (hB : w.heap[B]? = some om) (hs : IntObj P k e' S om) : d.R e w1 base ok v xs :=
  Kd.R_mono (Kd.R_move (Kd.R_bound h) (fun j hj => by
    obtain ⟨_, _, hlt, q, _, cells, hc⟩ := hj
    exact hg.block j hlt (fun e_ => int_ne_cells hs hc hB (Option.some.inj e_).symm))) (fun j hj => hj.1)
section
variable {P : Program} {ops : Array Oper} {rest : List Oper} {o : Oper} {a : Act} {Q : Exit → Act → World → Prop} {W : World}
theorem make_event (hgd : o.guard = none) {t : TypeId} (hop : o.op = Op.makeMap t none)
    (h : ∀ g, g = W.heap.size → ∀ w1, w1.heap[g]? = some (.map #[] 0) → Below W.heap.size W w1 → wpList P ops Q rest (a.put o.dst (.map (some g))) w1) : wpList P ops Q (o :: rest) a W :=
  Kd.event_run hgd (v := .map (some W.heap.size)) (w1 := W.alloc (.map #[] 0)) (by simp [execOp, hop, run_makeMap, Result.andThen]) (h _ rfl _ (blk_new W _) (below_alloc (Below.refl _ _) _))
theorem wpList_lookup_int (hgd : o.guard = none) {m x : Operand} {t k e : TypeId} (hop : o.op = Op.lookup t m x false) (hk : P.underlying k = some (.int .i64)) (ht : P.underlying t = some (.map k e)) (he : P.underlying e = some .bool)
    (hz : (zeroValue e).run P W = .ok (.bool false) W) (B : Nat) (S : List Int) (om : Obj) (hB : W.heap[B]? = some om) (hS : IntObj P k e S om) (s : Int) (hs : Small s)
    (hm : a.eval m = .map (some B)) (hx : a.eval x = .int .i64 s)
    (h : wpList P ops Q rest (a.put o.dst (.bool (inI S s))) W) : wpList P ops Q (o :: rest) a W := by
  obtain ⟨v, ps, hrun, hv⟩ := (hS W B hB).lookup (int_keyed hk) ht hz (plainElem_bool he false) (keyOf_int_mk hk (wf_small hs))
  obtain ⟨c, rfl, hc⟩ := plainElem_bool_inv he hv
  rw [seenI_at s _ S rfl] at hc
  simp only [Prod.mk.injEq, DataW.lit.injEq, Lit.bool.injEq] at hc
  obtain ⟨rfl, _⟩ := hc
  refine wpList_plain hgd fun K' hK' => ?_
  unfold Oper.wp
  simp [execOp, hop, hm, hx, hrun, Result.andThen]
  exact hK' _ _ h
theorem wpList_update_int (hgd : o.guard = none) {m x v : Operand} {t k e : TypeId} (hop : o.op = Op.mapUpdate t m x v) (hk : P.underlying k = some (.int .i64)) (ht : P.underlying t = some (.map k e)) (he : P.underlying e = some .bool)
    (B : Nat) (S : List Int) (om : Obj) (hB : W.heap[B]? = some om) (hS : IntObj P k e S om) (s : Int) (hs : Small s) (hl : S.length < 1000)
    (hm : a.eval m = .map (some B)) (hx : a.eval x = .int .i64 s) (hv : a.eval v = .bool true)
    (h : ∀ w1, IntAt P k e B (S ++ [s]) w1 → W.grownBy w1 (some B) → wpList P ops Q rest (a.put o.dst undef) w1) : wpList P ops Q (o :: rest) a W := by
  refine wpList_mapUpdate_own W hgd m x v t hop k e (int_keyed hk) ht (plainElem P e) B S.length (seenI S) hm (hS W B hB) (by unfold maxLen; omega) _ _ _ hx hv (keyOf_int_mk hk (wf_small hs)) (.lit (.bool true)) [] (plainElem_bool he true) ?_
  intro w' h1 h2
  refine h w' (seen_of ?_) h2
  rw [seenI_snoc, List.length_append]
  exact h1
/-- A call of a function value. -/
theorem gate_value {c : Operand} {as : Array Operand} {ts : Array TypeId} (_ho : o.op = .call { callee := .value c, args := as, argTypes := ts }) (h : wpList P ops Q (o :: rest) a W) : wpList P ops Q (o :: rest) a W := h
theorem goesV_ {oi : Oper} {a : Act} {w : World} (N : Option Tmp) (hd : oi.dst = N) (hg : oi.guard = none) {f : FuncId} {fn : Func} {c : Operand} {as : Array Operand} {ts : Array TypeId} {cap : Array Value} (hf : P.funcs[f]? = some fn) (hname : (fn.name == "runtime.NumGoroutine") = false) (hb : fn.body.isSome = true) (args : Array Value)
    (hop : oi.op = .call { callee := .value c, args := as, argTypes := ts }) (hc : a.eval c = .func (.func f) #[] cap) (hargs : as.map a.eval ++ cap = args)
    (h : Calls P f args w fun e w' => ∃ v, e = .returned v ∧ wpList P ops Q rest (a.put N v) w') : wpList P ops Q (oi :: rest) a w := by
  refine wpList_plain hg fun K hK => ?_
  have he := enters_ hf hname hb args w
  have hrun : (execOp a.eval oi).run P w = .ok (.enter f args) w := by
    unfold execOp
    subst hargs
    simp [hop, hc, resolve, Deferred.ofValue, invoke, he]
  unfold Oper.wp
  rw [hrun, Oper.upon_enter]
  refine h.mono fun e w'' hh => ?_
  obtain ⟨v, rfl, hk⟩ := hh
  subst hd
  exact hK _ _ hk
end
end Go.Proofs.Ytgmbbcnfcddamaa.SeenInt
