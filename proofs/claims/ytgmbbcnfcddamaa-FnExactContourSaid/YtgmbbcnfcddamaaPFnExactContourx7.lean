/- Written for this claim by a program of this session: the functions that the law reaches, each with its contract. -/
import Derived.Test.YtgmbbcnfcddamaaPFnExactContourx0
import Derived.Test.YtgmbbcnfcddamaaPFnExactContourx1
import Derived.Test.YtgmbbcnfcddamaaPFnExactContourx6
namespace Go.Proofs.Ytgmbbcnfcddamaa.PFnExactContour
open Go.RowKit Go.Proofs.YtgmbbcnfcddamaaW.PrintWords Go.Proofs.YtgmbbcnfcddamaaW.PrintLast Go.Proofs.YtgmbbcnfcddamaaW.PrintMore
attribute [local go_sem] i64_w max2_int min2_int max_two min_two max_three min_three max_four min_four   -- for this text's walks alone
set_option linter.unusedVariables false
set_option linter.unusedSimpArgs false

attribute [local go_sem high] eqA43
theorem arr_add (g n : Nat) : (⟨g, 0, none⟩ : Addr).add n = ⟨g, n, none⟩ := by
  unfold Addr.add
  split
  · rename_i h; rw [h]
  · simp
theorem Kd.R_arr {α : Type} (d : Kd α) {W : World} {base g e : Nat} {xs : List α} {inner : Array Value} (h : W.heap[g]? = some (.cells inner e (0, 0))) (hb : base ≤ g) (hm : xs.length ≤ 9223372036854775807) (hrep : Reps (d.M W base (fun k => True ∧ some k ≠ some g)) d.sz xs inner.toList) :
    ∃ v : Value, v = .slice (some ⟨g, 0, none⟩) xs.length xs.length ∧ d.R e W base (fun _ => True) v xs :=
  ⟨_, rfl, fun _ _ => trivial, inner.toList, ⟨hrep.1, .inr ⟨g, xs.length, inner, rfl, hb, h, Nat.le_refl _, by simpa [maxLen] using hm, by simpa using hrep.1, List.take_of_length_le (by rw [hrep.1]; exact Nat.le_refl _)⟩⟩, hrep⟩
theorem goesD_ {P : Program} {ops : Array Oper} {Q : Exit → Act → World → Prop} {oi : Oper} {N : Option Tmp} {a : Act} {w : World} {K : Act → World → Prop} {f : FuncId} {fn : Func} {c : Operand} {ax : Array Operand} {ts : Array TypeId} {cap : Array Value} (hf : P.funcs[f]? = some fn) (hname : (fn.name == "runtime.NumGoroutine") = false) (hb : fn.body.isSome = true) (args : Array Value)
    (hw : Region.wanted oi (yielded ops a.tmps) = true) (hN : oi.dst = N) (hop : oi.op = .call { callee := .value c, args := ax, argTypes := ts }) (hc : a.eval c = .func (.func f) #[] cap) (ha : ax.map a.eval ++ cap = args)
    (h : Calls P f args w fun e w' => ∃ v, e = .returned v ∧ K (a.put N v) w') : if Region.wanted oi (yielded ops a.tmps) = true then Oper.wp P oi a w K Q else K (a.put N undef) w := by
  refine call_ f args hw hN ?_ h
  have he := enters_ hf hname hb args w
  unfold execOp
  subst ha
  simp [hop, hc, resolve, Deferred.ofValue, invoke, he]
theorem then_wrap {P : Program} {s : Code} {Q : Exit → Act → World → Prop} {a : Act} {w : World} (h : ∀ K : Act → World → Prop, (∀ a' w', Q .normal a' w' → K a' w') → s.wp P (Exit.then K Q) a w) : s.wp P Q a w := by
  refine wp_mono (h (Q .normal) (fun _ _ q => q)) ?_
  intro e a' w' hq
  cases e <;> exact hq
/-! ### impl_Contour: function 17 -/
mutual
def impl_Contour.j0 : Nat → Bool → Int → Int → List Int → Int → Int → Option ((List (S43)) × Int)
  | 0, _, _, _, _, _, _ => none
  | k + 1, x27, x164000, x164001, x164002, x165000, x165001 => if x27 = true then (some (([] : List (S43)), 5)) else (impl_Contour.l0 k (-1) x164002 (x164002.length : Int) 0 x164000 x164001 x164002 x165000 x165001)
def impl_Contour.j2 : Nat → Int → Int → Int → List Int → Int → Int → Option ((List (S43)) × Int)
  | 0, _, _, _, _, _, _ => none
  | k + 1, x7, x164000, x164001, x164002, x165000, x165001 => if x7 < 0 then (some (([] : List (S43)), 8)) else (if x164000 = 0 then (none) else (impl_Contour.l1 k (([(⟨1, 0⟩ : S43), (⟨0, 1⟩ : S43), (⟨(-1), 0⟩ : S43), (⟨0, (-1)⟩ : S43)] : List (S43))) (([(⟨0, 0⟩ : S43), (⟨(-1), 0⟩ : S43), (⟨(-1), (-1)⟩ : S43), (⟨0, (-1)⟩ : S43)] : List (S43))) (([(⟨0, (-1)⟩ : S43), (⟨0, 0⟩ : S43), (⟨(-1), 0⟩ : S43), (⟨(-1), (-1)⟩ : S43)] : List (S43))) 0 (([(⟨Int.tmod x7 x164000, wrap64 (Int.tdiv x7 x164000)⟩ : S43)] : List (S43))) x164000 x164001 x164002 x165000 x165001 (Int.tmod x7 x164000) (wrap64 (Int.tdiv x7 x164000)) (Int.tmod x7 x164000) (wrap64 (Int.tdiv x7 x164000))))
def impl_Contour.l1 : Nat → List (S43) → List (S43) → List (S43) → Int → List (S43) → Int → Int → List Int → Int → Int → Int → Int → Int → Int → Option ((List (S43)) × Int)
  | 0, _, _, _, _, _, _, _, _, _, _, _, _, _, _ => none
  | k + 1, x12, x13, x14, x15, x16, x164000, x164001, x164002, x165000, x165001, x168000, x168001, x169000, x169001 => if 0 ≤ x15 then (if x15 < (x12.length : Int) then (if ((wrap64 (x168000 + ((rd_T43 x12 x15).f0))) == x169000 && ((wrap64 (x168001 + ((rd_T43 x12 x15).f1))) == x169001)) = true then (some (x16, 0)) else (if x15 < (x13.length : Int) then ((impl_Contour_1.f (wrap64 ((wrap64 (x168000 + ((rd_T43 x12 x15).f0))) + ((rd_T43 x13 x15).f0))) (wrap64 ((wrap64 (x168001 + ((rd_T43 x12 x15).f1))) + ((rd_T43 x13 x15).f1))) x164000 x164001 x164002 x165000).bind fun t185 => (if x15 < (x14.length : Int) then ((impl_Contour_1.f (wrap64 ((wrap64 (x168000 + ((rd_T43 x12 x15).f0))) + ((rd_T43 x14 x15).f0))) (wrap64 ((wrap64 (x168001 + ((rd_T43 x12 x15).f1))) + ((rd_T43 x14 x15).f1))) x164000 x164001 x164002 x165000).bind fun t188 => (if t185 = true then (if t188 = true then (if x16.length < 8796093022208 then (impl_Contour.j4 k x12 x13 x14 (Int.tmod (wrap64 (x15 + 3)) 4) (x16 ++ [(⟨wrap64 (x168000 + ((rd_T43 x12 x15).f0)), wrap64 (x168001 + ((rd_T43 x12 x15).f1))⟩ : S43)]) x164000 x164001 x164002 x165000 x165001 (wrap64 (x168000 + ((rd_T43 x12 x15).f0))) (wrap64 (x168001 + ((rd_T43 x12 x15).f1))) x169000 x169001) else (none)) else (impl_Contour.j4 k x12 x13 x14 x15 x16 x164000 x164001 x164002 x165000 x165001 (wrap64 (x168000 + ((rd_T43 x12 x15).f0))) (wrap64 (x168001 + ((rd_T43 x12 x15).f1))) x169000 x169001)) else (if x16.length < 8796093022208 then (impl_Contour.j5 k x12 x13 x14 (Int.tmod (wrap64 (x15 + 1)) 4) (x16 ++ [(⟨wrap64 (x168000 + ((rd_T43 x12 x15).f0)), wrap64 (x168001 + ((rd_T43 x12 x15).f1))⟩ : S43)]) x164000 x164001 x164002 x165000 x165001 (wrap64 (x168000 + ((rd_T43 x12 x15).f0))) (wrap64 (x168001 + ((rd_T43 x12 x15).f1))) x169000 x169001) else (none)))) else (none))) else (none))) else (none)) else (none)
def impl_Contour.j5 : Nat → List (S43) → List (S43) → List (S43) → Int → List (S43) → Int → Int → List Int → Int → Int → Int → Int → Int → Int → Option ((List (S43)) × Int)
  | 0, _, _, _, _, _, _, _, _, _, _, _, _, _, _ => none
  | k + 1, x12, x13, x14, x15, x16, x164000, x164001, x164002, x165000, x165001, x168000, x168001, x169000, x169001 => impl_Contour.l1 k x12 x13 x14 x15 x16 x164000 x164001 x164002 x165000 x165001 x168000 x168001 x169000 x169001
def impl_Contour.j4 : Nat → List (S43) → List (S43) → List (S43) → Int → List (S43) → Int → Int → List Int → Int → Int → Int → Int → Int → Int → Option ((List (S43)) × Int)
  | 0, _, _, _, _, _, _, _, _, _, _, _, _, _, _ => none
  | k + 1, x12, x13, x14, x15, x16, x164000, x164001, x164002, x165000, x165001, x168000, x168001, x169000, x169001 => impl_Contour.j5 k x12 x13 x14 x15 x16 x164000 x164001 x164002 x165000 x165001 x168000 x168001 x169000 x169001
def impl_Contour.l0 : Nat → Int → List Int → Int → Int → Int → Int → List Int → Int → Int → Option ((List (S43)) × Int)
  | 0, _, _, _, _, _, _, _, _, _ => none
  | k + 1, x7, x30, x31, x32, x164000, x164001, x164002, x165000, x165001 => if x32 < x31 then (if 0 ≤ x32 then (if x32 < (x30.length : Int) then (if (rd x30 x32) > x165000 then (impl_Contour.j2 k x32 x164000 x164001 x164002 x165000 x165001) else (impl_Contour.l0 k x7 x30 x31 (wrap64 (x32 + 1)) x164000 x164001 x164002 x165000 x165001)) else (none)) else (none)) else (impl_Contour.j2 k x7 x164000 x164001 x164002 x165000 x165001)
end
def impl_Contour.f (k : Nat) (a0_0 : Int) (a0_1 : Int) (l0_2 : List Int) (a1 : Int) : Option ((List (S43)) × Int) := (impl_FieldOK.f k a0_0 a0_1 l0_2).bind fun t165 => (if t165 = true then (if a1 < 0 then (impl_Contour.j0 k true a0_0 a0_1 l0_2 a1 0) else (impl_Contour.j0 k (decide (a1 ≥ 24)) a0_0 a0_1 l0_2 a1 0)) else (some (([] : List (S43)), 1)))
theorem impl_Contour.mono_l : ∀ k, (∀ y0 y1 y2 y3 y4 y5, LeO (impl_Contour.j0 k y0 y1 y2 y3 y4 y5) (impl_Contour.j0 (k + 1) y0 y1 y2 y3 y4 y5)) ∧ (∀ y0 y1 y2 y3 y4 y5, LeO (impl_Contour.j2 k y0 y1 y2 y3 y4 y5) (impl_Contour.j2 (k + 1) y0 y1 y2 y3 y4 y5)) ∧ (∀ y0 y1 y2 y3 y4 y5 y6 y7 y8 y9 y10 y11 y12 y13, LeO (impl_Contour.l1 k y0 y1 y2 y3 y4 y5 y6 y7 y8 y9 y10 y11 y12 y13) (impl_Contour.l1 (k + 1) y0 y1 y2 y3 y4 y5 y6 y7 y8 y9 y10 y11 y12 y13)) ∧ (∀ y0 y1 y2 y3 y4 y5 y6 y7 y8 y9 y10 y11 y12 y13, LeO (impl_Contour.j5 k y0 y1 y2 y3 y4 y5 y6 y7 y8 y9 y10 y11 y12 y13) (impl_Contour.j5 (k + 1) y0 y1 y2 y3 y4 y5 y6 y7 y8 y9 y10 y11 y12 y13)) ∧ (∀ y0 y1 y2 y3 y4 y5 y6 y7 y8 y9 y10 y11 y12 y13, LeO (impl_Contour.j4 k y0 y1 y2 y3 y4 y5 y6 y7 y8 y9 y10 y11 y12 y13) (impl_Contour.j4 (k + 1) y0 y1 y2 y3 y4 y5 y6 y7 y8 y9 y10 y11 y12 y13)) ∧ (∀ y0 y1 y2 y3 y4 y5 y6 y7 y8, LeO (impl_Contour.l0 k y0 y1 y2 y3 y4 y5 y6 y7 y8) (impl_Contour.l0 (k + 1) y0 y1 y2 y3 y4 y5 y6 y7 y8))
  | 0 => ⟨fun _ _ _ _ _ _ r h => by simp [impl_Contour.j0] at h, fun _ _ _ _ _ _ r h => by simp [impl_Contour.j2] at h, fun _ _ _ _ _ _ _ _ _ _ _ _ _ _ r h => by simp [impl_Contour.l1] at h, fun _ _ _ _ _ _ _ _ _ _ _ _ _ _ r h => by simp [impl_Contour.j5] at h, fun _ _ _ _ _ _ _ _ _ _ _ _ _ _ r h => by simp [impl_Contour.j4] at h, fun _ _ _ _ _ _ _ _ _ r h => by simp [impl_Contour.l0] at h⟩
  | k + 1 => by
    obtain ⟨ih0, ih1, ih2, ih3, ih4, ih5⟩ := impl_Contour.mono_l k
    refine ⟨?_, ?_, ?_, ?_, ?_, ?_⟩
    · intro y0 y1 y2 y3 y4 y5
      unfold impl_Contour.j0
      repeat' first
      | (with_reducible exact ih0 _ _ _ _ _ _)
      | (with_reducible exact ih1 _ _ _ _ _ _)
      | (with_reducible exact ih2 _ _ _ _ _ _ _ _ _ _ _ _ _ _)
      | (with_reducible exact ih3 _ _ _ _ _ _ _ _ _ _ _ _ _ _)
      | (with_reducible exact ih4 _ _ _ _ _ _ _ _ _ _ _ _ _ _)
      | (with_reducible exact ih5 _ _ _ _ _ _ _ _ _)
      | (with_reducible exact impl_FieldOK.mono _ _ _ _)
      | (with_reducible exact LeO.refl _)
      | (with_reducible exact LeO.none _)
      | (with_reducible refine LeO.ite ?_ ?_)
      | (with_reducible refine LeO.bind ?_ (fun _ => ?_))
      | exact ih0 _ _ _ _ _ _
      | exact ih1 _ _ _ _ _ _
      | exact ih2 _ _ _ _ _ _ _ _ _ _ _ _ _ _
      | exact ih3 _ _ _ _ _ _ _ _ _ _ _ _ _ _
      | exact ih4 _ _ _ _ _ _ _ _ _ _ _ _ _ _
      | exact ih5 _ _ _ _ _ _ _ _ _
      | exact impl_FieldOK.mono _ _ _ _
      | exact LeO.none _
      | refine LeO.ite ?_ ?_
      | refine LeO.bind ?_ (fun _ => ?_)
    · intro y0 y1 y2 y3 y4 y5
      unfold impl_Contour.j2
      repeat' first
      | (with_reducible exact ih0 _ _ _ _ _ _)
      | (with_reducible exact ih1 _ _ _ _ _ _)
      | (with_reducible exact ih2 _ _ _ _ _ _ _ _ _ _ _ _ _ _)
      | (with_reducible exact ih3 _ _ _ _ _ _ _ _ _ _ _ _ _ _)
      | (with_reducible exact ih4 _ _ _ _ _ _ _ _ _ _ _ _ _ _)
      | (with_reducible exact ih5 _ _ _ _ _ _ _ _ _)
      | (with_reducible exact impl_FieldOK.mono _ _ _ _)
      | (with_reducible exact LeO.refl _)
      | (with_reducible exact LeO.none _)
      | (with_reducible refine LeO.ite ?_ ?_)
      | (with_reducible refine LeO.bind ?_ (fun _ => ?_))
      | exact ih0 _ _ _ _ _ _
      | exact ih1 _ _ _ _ _ _
      | exact ih2 _ _ _ _ _ _ _ _ _ _ _ _ _ _
      | exact ih3 _ _ _ _ _ _ _ _ _ _ _ _ _ _
      | exact ih4 _ _ _ _ _ _ _ _ _ _ _ _ _ _
      | exact ih5 _ _ _ _ _ _ _ _ _
      | exact impl_FieldOK.mono _ _ _ _
      | exact LeO.none _
      | refine LeO.ite ?_ ?_
      | refine LeO.bind ?_ (fun _ => ?_)
    · intro y0 y1 y2 y3 y4 y5 y6 y7 y8 y9 y10 y11 y12 y13
      unfold impl_Contour.l1
      repeat' first
      | (with_reducible exact ih0 _ _ _ _ _ _)
      | (with_reducible exact ih1 _ _ _ _ _ _)
      | (with_reducible exact ih2 _ _ _ _ _ _ _ _ _ _ _ _ _ _)
      | (with_reducible exact ih3 _ _ _ _ _ _ _ _ _ _ _ _ _ _)
      | (with_reducible exact ih4 _ _ _ _ _ _ _ _ _ _ _ _ _ _)
      | (with_reducible exact ih5 _ _ _ _ _ _ _ _ _)
      | (with_reducible exact impl_FieldOK.mono _ _ _ _)
      | (with_reducible exact LeO.refl _)
      | (with_reducible exact LeO.none _)
      | (with_reducible refine LeO.ite ?_ ?_)
      | (with_reducible refine LeO.bind ?_ (fun _ => ?_))
      | exact ih0 _ _ _ _ _ _
      | exact ih1 _ _ _ _ _ _
      | exact ih2 _ _ _ _ _ _ _ _ _ _ _ _ _ _
      | exact ih3 _ _ _ _ _ _ _ _ _ _ _ _ _ _
      | exact ih4 _ _ _ _ _ _ _ _ _ _ _ _ _ _
      | exact ih5 _ _ _ _ _ _ _ _ _
      | exact impl_FieldOK.mono _ _ _ _
      | exact LeO.none _
      | refine LeO.ite ?_ ?_
      | refine LeO.bind ?_ (fun _ => ?_)
    · intro y0 y1 y2 y3 y4 y5 y6 y7 y8 y9 y10 y11 y12 y13
      unfold impl_Contour.j5
      repeat' first
      | (with_reducible exact ih0 _ _ _ _ _ _)
      | (with_reducible exact ih1 _ _ _ _ _ _)
      | (with_reducible exact ih2 _ _ _ _ _ _ _ _ _ _ _ _ _ _)
      | (with_reducible exact ih3 _ _ _ _ _ _ _ _ _ _ _ _ _ _)
      | (with_reducible exact ih4 _ _ _ _ _ _ _ _ _ _ _ _ _ _)
      | (with_reducible exact ih5 _ _ _ _ _ _ _ _ _)
      | (with_reducible exact impl_FieldOK.mono _ _ _ _)
      | (with_reducible exact LeO.refl _)
      | (with_reducible exact LeO.none _)
      | (with_reducible refine LeO.ite ?_ ?_)
      | (with_reducible refine LeO.bind ?_ (fun _ => ?_))
      | exact ih0 _ _ _ _ _ _
      | exact ih1 _ _ _ _ _ _
      | exact ih2 _ _ _ _ _ _ _ _ _ _ _ _ _ _
      | exact ih3 _ _ _ _ _ _ _ _ _ _ _ _ _ _
      | exact ih4 _ _ _ _ _ _ _ _ _ _ _ _ _ _
      | exact ih5 _ _ _ _ _ _ _ _ _
      | exact impl_FieldOK.mono _ _ _ _
      | exact LeO.none _
      | refine LeO.ite ?_ ?_
      | refine LeO.bind ?_ (fun _ => ?_)
    · intro y0 y1 y2 y3 y4 y5 y6 y7 y8 y9 y10 y11 y12 y13
      unfold impl_Contour.j4
      repeat' first
      | (with_reducible exact ih0 _ _ _ _ _ _)
      | (with_reducible exact ih1 _ _ _ _ _ _)
      | (with_reducible exact ih2 _ _ _ _ _ _ _ _ _ _ _ _ _ _)
      | (with_reducible exact ih3 _ _ _ _ _ _ _ _ _ _ _ _ _ _)
      | (with_reducible exact ih4 _ _ _ _ _ _ _ _ _ _ _ _ _ _)
      | (with_reducible exact ih5 _ _ _ _ _ _ _ _ _)
      | (with_reducible exact impl_FieldOK.mono _ _ _ _)
      | (with_reducible exact LeO.refl _)
      | (with_reducible exact LeO.none _)
      | (with_reducible refine LeO.ite ?_ ?_)
      | (with_reducible refine LeO.bind ?_ (fun _ => ?_))
      | exact ih0 _ _ _ _ _ _
      | exact ih1 _ _ _ _ _ _
      | exact ih2 _ _ _ _ _ _ _ _ _ _ _ _ _ _
      | exact ih3 _ _ _ _ _ _ _ _ _ _ _ _ _ _
      | exact ih4 _ _ _ _ _ _ _ _ _ _ _ _ _ _
      | exact ih5 _ _ _ _ _ _ _ _ _
      | exact impl_FieldOK.mono _ _ _ _
      | exact LeO.none _
      | refine LeO.ite ?_ ?_
      | refine LeO.bind ?_ (fun _ => ?_)
    · intro y0 y1 y2 y3 y4 y5 y6 y7 y8
      unfold impl_Contour.l0
      repeat' first
      | (with_reducible exact ih0 _ _ _ _ _ _)
      | (with_reducible exact ih1 _ _ _ _ _ _)
      | (with_reducible exact ih2 _ _ _ _ _ _ _ _ _ _ _ _ _ _)
      | (with_reducible exact ih3 _ _ _ _ _ _ _ _ _ _ _ _ _ _)
      | (with_reducible exact ih4 _ _ _ _ _ _ _ _ _ _ _ _ _ _)
      | (with_reducible exact ih5 _ _ _ _ _ _ _ _ _)
      | (with_reducible exact impl_FieldOK.mono _ _ _ _)
      | (with_reducible exact LeO.refl _)
      | (with_reducible exact LeO.none _)
      | (with_reducible refine LeO.ite ?_ ?_)
      | (with_reducible refine LeO.bind ?_ (fun _ => ?_))
      | exact ih0 _ _ _ _ _ _
      | exact ih1 _ _ _ _ _ _
      | exact ih2 _ _ _ _ _ _ _ _ _ _ _ _ _ _
      | exact ih3 _ _ _ _ _ _ _ _ _ _ _ _ _ _
      | exact ih4 _ _ _ _ _ _ _ _ _ _ _ _ _ _
      | exact ih5 _ _ _ _ _ _ _ _ _
      | exact impl_FieldOK.mono _ _ _ _
      | exact LeO.none _
      | refine LeO.ite ?_ ?_
      | refine LeO.bind ?_ (fun _ => ?_)
theorem impl_Contour.mono : ∀ a0 a1 a2 a3 k, LeO (impl_Contour.f k a0 a1 a2 a3) (impl_Contour.f (k + 1) a0 a1 a2 a3) := by
  intro a0 a1 a2 a3 k
  obtain ⟨ih0, ih1, ih2, ih3, ih4, ih5⟩ := impl_Contour.mono_l k
  unfold impl_Contour.f
  repeat' first
      | (with_reducible exact ih0 _ _ _ _ _ _)
      | (with_reducible exact ih1 _ _ _ _ _ _)
      | (with_reducible exact ih2 _ _ _ _ _ _ _ _ _ _ _ _ _ _)
      | (with_reducible exact ih3 _ _ _ _ _ _ _ _ _ _ _ _ _ _)
      | (with_reducible exact ih4 _ _ _ _ _ _ _ _ _ _ _ _ _ _)
      | (with_reducible exact ih5 _ _ _ _ _ _ _ _ _)
      | (with_reducible exact impl_FieldOK.mono _ _ _ _)
      | (with_reducible exact LeO.refl _)
      | (with_reducible exact LeO.none _)
      | (with_reducible refine LeO.ite ?_ ?_)
      | (with_reducible refine LeO.bind ?_ (fun _ => ?_))
      | exact ih0 _ _ _ _ _ _
      | exact ih1 _ _ _ _ _ _
      | exact ih2 _ _ _ _ _ _ _ _ _ _ _ _ _ _
      | exact ih3 _ _ _ _ _ _ _ _ _ _ _ _ _ _
      | exact ih4 _ _ _ _ _ _ _ _ _ _ _ _ _ _
      | exact ih5 _ _ _ _ _ _ _ _ _
      | exact impl_FieldOK.mono _ _ _ _
      | exact LeO.none _
      | refine LeO.ite ?_ ?_
      | refine LeO.bind ?_ (fun _ => ?_)
def impl_Contour.T15 : Bool × List (List Nat × List Nat) := (true, [([], []), ([], []), ([1], [1]), ([0, 2], [0, 2]), ([], []), ([], []), ([5], [5]), ([4, 6], [4, 6]), ([3, 7], [3, 7]), ([], []), ([9, 8, 0, 1, 2, 3, 4, 5, 6, 7, 8, 9], [8, 9])])
def impl_Contour.B15 : List Nat := [0, 0, 2, 7, 0, 0, 32, 112, 255, 0, 1023]
theorem impl_Contour.tab15 : rtab .any (opsOf Try.f17 15) = impl_Contour.T15 := by kernel_rfl
theorem impl_Contour.bits15 : waitsOk impl_Contour.T15.2 impl_Contour.B15 = true := by kernel_rfl
def impl_Contour.T22 : Bool × List (List Nat × List Nat) := (true, [([], []), ([0], [0]), ([], []), ([2], [2]), ([3], [3]), ([4], [4]), ([1, 5], [1, 5]), ([], []), ([7], [7]), ([], []), ([9], [9]), ([10], [10]), ([11], [11]), ([8, 12], [8, 12]), ([6, 13], [6, 13]), ([14, 0, 1, 2, 3, 4, 5, 6, 7, 8, 9, 10, 11, 12, 13, 14], [14])])
def impl_Contour.B22 : List Nat := [0, 1, 0, 4, 12, 28, 63, 0, 128, 0, 512, 1536, 3584, 8064, 16383, 32767]
theorem impl_Contour.tab22 : rtab .any (opsOf Try.f17 22) = impl_Contour.T22 := by kernel_rfl
theorem impl_Contour.bits22 : waitsOk impl_Contour.T22.2 impl_Contour.B22 = true := by kernel_rfl
def impl_Contour.T25 : Bool × List (List Nat × List Nat) := (true, [([], []), ([], []), ([1], [1]), ([], []), ([3], [3]), ([4], [4]), ([5], [5]), ([2, 6], [2, 6]), ([], []), ([8], [8]), ([], []), ([10], [10]), ([11], [11]), ([12], [12]), ([9, 13], [9, 13]), ([0, 7, 14], [0, 7, 14]), ([15, 15, 0, 1, 2, 3, 4, 5, 6, 7, 8, 9, 10, 11, 12, 13, 14, 15], [15])])
def impl_Contour.B25 : List Nat := [0, 0, 2, 0, 8, 24, 56, 126, 0, 256, 0, 1024, 3072, 7168, 16128, 32767, 65535]
theorem impl_Contour.tab25 : rtab .any (opsOf Try.f17 25) = impl_Contour.T25 := by kernel_rfl
theorem impl_Contour.bits25 : waitsOk impl_Contour.T25.2 impl_Contour.B25 = true := by kernel_rfl
def impl_Contour.T26 : Bool × List (List Nat × List Nat) := (true, [([], []), ([], []), ([1], [1]), ([], []), ([3], [3]), ([4], [4]), ([5], [5]), ([2, 6], [2, 6]), ([], []), ([8], [8]), ([], []), ([10], [10]), ([11], [11]), ([12], [12]), ([9, 13], [9, 13]), ([0, 7, 14], [0, 7, 14]), ([15, 15, 0, 1, 2, 3, 4, 5, 6, 7, 8, 9, 10, 11, 12, 13, 14, 15], [15])])
def impl_Contour.B26 : List Nat := [0, 0, 2, 0, 8, 24, 56, 126, 0, 256, 0, 1024, 3072, 7168, 16128, 32767, 65535]
theorem impl_Contour.tab26 : rtab .any (opsOf Try.f17 26) = impl_Contour.T26 := by kernel_rfl
theorem impl_Contour.bits26 : waitsOk impl_Contour.T26.2 impl_Contour.B26 = true := by kernel_rfl
set_option maxHeartbeats 8000000 in
set_option maxRecDepth 100000 in
theorem impl_Contour.calls (k : Nat) (a0_0 : Int) (a0_1 : Int) (A0_2 : Option Addr) (c0_2 : Nat) (l0_2 : List Int) (a1 : Int) (r1 : List (S43)) (r2 : Int) (w : World) (hr0_2 : Kd.C (Kd.int .i64) w A0_2 l0_2.length l0_2) (hc0_2 : l0_2.length ≤ c0_2) (h : impl_Contour.f k a0_0 a0_1 l0_2 a1 = some (r1, r2)) :
    Calls Try.prog 17 #[.agg #[.int .i64 a0_0, .int .i64 a0_1, .slice A0_2 l0_2.length c0_2], .int .i64 a1] w fun e w' => ∃ v0_ : Value, e = .returned (.tuple #[v0_, .int .i64 r2]) ∧ Kd.R k43 43 w' w.heap.size (fun _ => True) v0_ r1 ∧ Below w.heap.size w w' := by
  have hu26 := Try.underlying26
  have hu43 := Try.underlying43
  have HR0_2 := Aside0.mk hr0_2
  have HC0_2 := Aside0.mk hc0_2
  clear hr0_2 hc0_2
  have HB := Aside0.mk (Below.refl w.heap.size w)
  have hmf : ∀ (fn : Fn) (first cap : Array Value) (w : World), (Instr.makeFunc fn first cap).run Try.prog w = .ok (.func fn first cap) w := fun _ _ _ _ => rfl
  have H : ((impl_FieldOK.f k a0_0 a0_1 l0_2).bind fun t165 => (if t165 = true then (if a1 < 0 then (impl_Contour.j0 k true a0_0 a0_1 l0_2 a1 0) else (impl_Contour.j0 k (decide (a1 ≥ 24)) a0_0 a0_1 l0_2 a1 0)) else (some (([] : List (S43)), 1)))) = some (r1, r2) := h
  clear h
  replace H := Option.bind_eq_some_iff.mp H
  obtain ⟨t165, A30, H⟩ := H
  replace H : (if t165 = true then (if a1 < 0 then (impl_Contour.j0 k true a0_0 a0_1 l0_2 a1 0) else (impl_Contour.j0 k (decide (a1 ≥ 24)) a0_0 a0_1 l0_2 a1 0)) else (some (([] : List (S43)), 1))) = some (r1, r2) := H
  have A3 := Aside0.mk A30
  clear A30
  by_cases c4 : t165 = true
  · subst c4
    have H1 : (if a1 < 0 then (impl_Contour.j0 k true a0_0 a0_1 l0_2 a1 0) else (impl_Contour.j0 k (decide (a1 ≥ 24)) a0_0 a0_1 l0_2 a1 0)) = some (r1, r2) := by rw [if_pos rfl] at H; exact H
    clear H
    have H := H1
    clear H1
    have HC5 := Aside0.mk H
    clear H
    go_enter Try.func17, Try.ntmps17
    go_upto_region 3 with (first | ((with_reducible refine gate_dst (N := 2) rfl ?_); refine box_event ?hg (N := 2) ?hd (cs := #[.int .i64 a0_0, .int .i64 a0_1, .slice A0_2 l0_2.length c0_2]) (t := 26) ?hr ?_; (case hd => rfl); (case hg => rfl); (case hr => first | (go_simp; done) | (go_simp; rfl)); intro gb163 hg w6 hbox hb; have n0_ := Aside0.mk (below_step (by repeat (first | (with_reducible first | exact HB.out | apply below_alloc | apply pw_below_drewN | apply below_drew1) | exact HB.out)) hb); have n1_ := Aside0.mk (hbox); have n2_ := Aside0.mk ((by rw [hg]; exact (below_size (by repeat (first | (with_reducible first | exact HB.out | apply below_alloc | apply pw_below_drewN | apply below_drew1) | exact HB.out))) : w.heap.size ≤ gb163)); have n3_ := Aside0.mk ((by rw [hg]; exact (below_size (by repeat (first | (with_reducible first | exact HB.out | apply below_alloc | apply pw_below_drewN | apply below_drew1) | exact HB.out))) : w.heap.size ≤ gb163)); clear HB; have HB := n0_; have BK163 := n1_; have GW163 := n2_; have GE163 := n3_; clear n0_ n1_ n2_ n3_; clear hb hbox hg) | ((with_reducible refine gate_dst (N := 3) rfl ?_); refine box_event ?hg (N := 3) ?hd (cs := #[.int .i64 a1]) (t := 3) ?hr ?_; (case hd => rfl); (case hg => rfl); (case hr => first | (go_simp; done) | (go_simp; rfl)); intro gb164 hg w7 hbox hb; have n0_ := Aside0.mk (blk_below (g := gb163) (o := .cells #[.int .i64 a0_0, .int .i64 a0_1, .slice A0_2 l0_2.length c0_2] 26 (0, 0)) (by (with_reducible repeat (first | refine blk_drewN ?_ _ | refine blk_drew ?_ | refine blk_alloc ?_ _)); exact BK163.out) hb); have n1_ := Aside0.mk (below_step (by repeat (first | (with_reducible first | exact HB.out | apply below_alloc | apply pw_below_drewN | apply below_drew1 | refine below_set ?_ GE163.out) | exact HB.out)) hb); have n2_ := Aside0.mk (hbox); have n3_ := Aside0.mk ((by rw [hg]; exact (below_size (by repeat (first | (with_reducible first | exact HB.out | apply below_alloc | apply pw_below_drewN | apply below_drew1 | refine below_set ?_ GE163.out) | exact HB.out))) : w.heap.size ≤ gb164)); have n4_ := Aside0.mk ((by rw [hg]; exact (below_size (by repeat (first | (with_reducible first | exact HB.out | apply below_alloc | apply pw_below_drewN | apply below_drew1 | refine below_set ?_ GE163.out) | exact HB.out))) : w.heap.size ≤ gb164)); have n5_ := Aside0.mk ((by rw [hg]; exact Nat.ne_of_lt (blk_lt (g := gb163) (o := .cells #[.int .i64 a0_0, .int .i64 a0_1, .slice A0_2 l0_2.length c0_2] 26 (0, 0)) (by (with_reducible repeat (first | refine blk_drewN ?_ _ | refine blk_drew ?_ | refine blk_alloc ?_ _)); exact BK163.out)) : gb163 ≠ gb164)); have n6_ := Aside0.mk ((by rw [hg]; exact Nat.ne_of_gt (blk_lt (g := gb163) (o := .cells #[.int .i64 a0_0, .int .i64 a0_1, .slice A0_2 l0_2.length c0_2] 26 (0, 0)) (by (with_reducible repeat (first | refine blk_drewN ?_ _ | refine blk_drew ?_ | refine blk_alloc ?_ _)); exact BK163.out)) : gb164 ≠ gb163)); clear BK163; clear HB; have BK163 := n0_; have HB := n1_; have BK164 := n2_; have GW164 := n3_; have GE164 := n4_; have NB163_164 := n5_; have NB164_163 := n6_; clear n0_ n1_ n2_ n3_ n4_ n5_ n6_; clear hb hbox hg; have hnb8 := NB163_164.out; have hnc8 := NB164_163.out; have hcz9_0 : w7.cell? ⟨gb163, 0, none⟩ = some (.int .i64 a0_0) := (blk_cell BK163.out 0).trans rfl; have hcz9_1 : w7.cell? ⟨gb163, 1, none⟩ = some (.int .i64 a0_1) := (blk_cell BK163.out 1).trans rfl; have hcz9_2 : w7.cell? ⟨gb163, 2, none⟩ = some (.slice A0_2 l0_2.length c0_2) := (blk_cell BK163.out 2).trans rfl; have hfz9_0 := blk_frozen BK163.out 0; have hfz9_1 := blk_frozen BK163.out 1; have hfz9_2 := blk_frozen BK163.out 2) | ((with_reducible refine gate_callee (f := 44) rfl ?_); refine goesL_ (some 20) rfl rfl Try.func44 (by kernel_rfl) rfl #[.agg #[.int .i64 a0_0, .int .i64 a0_1, .slice A0_2 l0_2.length c0_2]] rfl (by (try simp only [List.map_toArray, List.map_cons, List.map_nil]); first | done | rfl | (simp only [List.length_drop, List.length_take]; rfl)) ?_; (with_reducible refine (impl_FieldOK.calls k a0_0 a0_1 _ _ l0_2 true _ ?side1 ?side2 A3.out).mono ?_); (case side1 => repeat (first | exact (Kd.C_below HR0_2.out HB.out) | (with_reducible refine Kd.C_alloc ?_ _) | (with_reducible refine Kd.C_drewN ?_ _) | (with_reducible refine Kd.C_drew ?_))); (case side2 => exact HC0_2.out); rintro e w10 ⟨rfl, hb⟩; refine ⟨_, rfl, ?_⟩; have n0_ := Aside0.mk (blk_below (g := gb163) (o := .cells #[.int .i64 a0_0, .int .i64 a0_1, .slice A0_2 l0_2.length c0_2] 26 (0, 0)) (by (with_reducible repeat (first | refine blk_drewN ?_ _ | refine blk_drew ?_ | refine blk_alloc ?_ _)); exact BK163.out) hb); have n1_ := Aside0.mk (blk_below (g := gb164) (o := .cells #[.int .i64 a1] 3 (0, 0)) (by (with_reducible repeat (first | refine blk_drewN ?_ _ | refine blk_drew ?_ | refine blk_alloc ?_ _)); exact BK164.out) hb); have n2_ := Aside0.mk (below_step (by repeat (first | (with_reducible first | exact HB.out | apply below_alloc | apply pw_below_drewN | apply below_drew1 | refine below_set ?_ GE163.out | refine below_set ?_ GE164.out) | exact HB.out)) hb); clear BK163; clear BK164; clear HB; have BK163 := n0_; have BK164 := n1_; have HB := n2_; clear n0_ n1_ n2_; (try clear hb); (try clear hb2); (try clear hk); (try clear hi)))
    (try simp only [Act.put, List.setIfInBounds_toArray, List.set_cons_zero, List.set_cons_succ])
    go_cut [27] (fun v27 wc => ∃ (kq : Nat) (x27_4 : Bool), v27 = .bool x27_4 ∧ Aside0 (impl_Contour.j0 kq x27_4 a0_0 a0_1 l0_2 a1 0 = some (r1, r2)) ∧ Aside0 (kq ≤ k) ∧ Aside0 (wc.heap[gb163]? = some (.cells #[.int .i64 a0_0, .int .i64 a0_1, (.slice A0_2 l0_2.length c0_2)] 26 (0, 0))) ∧ Aside0 (wc.heap[gb164]? = some (.cells #[.int .i64 a1] 3 (0, 0))) ∧ Aside0 (Below w.heap.size w wc))
    case first =>
      have H := HC5.out
      clear HC5
      by_cases c11 : a1 < 0
      · rw [if_pos c11] at H
        have c11b0 : decide (a1 < 0) = true := decide_eq_true c11
        clear c11
        (first | rw [c11b0] | (simp only [i64_w, i32_w]; rw [c11b0]) | skip)
        have H' := Aside0.mk H
        clear H
        have hnb12 := NB164_163.out
        have hnc12 := NB163_164.out
        have hcz13_0 : w10.cell? ⟨gb164, 0, none⟩ = some (.int .i64 a1) := (blk_cell BK164.out 0).trans rfl
        
        have hfz13_0 := blk_frozen BK164.out 0
        
        go_wp2
        go_meet
        case rel => exact ⟨_, (true), (by first | rfl | (simp; done) | (simp [*]; done)), H', ⟨by first | omega | exact Nat.le_refl _⟩, ⟨by (with_reducible repeat (first | refine blk_drewN ?_ _ | refine blk_drew ?_ | refine blk_alloc ?_ _)); exact BK163.out⟩, ⟨by (with_reducible repeat (first | refine blk_drewN ?_ _ | refine blk_drew ?_ | refine blk_alloc ?_ _)); exact BK164.out⟩, ⟨by repeat (first | (with_reducible first | exact HB.out | apply below_alloc | apply pw_below_drewN | apply below_drew1 | refine below_set ?_ GE163.out | refine below_set ?_ GE164.out) | exact HB.out)⟩⟩
      · rw [if_neg c11] at H
        have c11b0 : decide (a1 < 0) = false := decide_eq_false c11
        clear c11
        (first | rw [c11b0] | (simp only [i64_w, i32_w]; rw [c11b0]) | skip)
        have H' := Aside0.mk H
        clear H
        have hnb14 := NB164_163.out
        have hnc14 := NB163_164.out
        have hcz15_0 : w10.cell? ⟨gb164, 0, none⟩ = some (.int .i64 a1) := (blk_cell BK164.out 0).trans rfl
        
        have hfz15_0 := blk_frozen BK164.out 0
        
        go_wp2
        go_meet
        case rel => exact ⟨_, (decide (a1 ≥ 24)), (by first | rfl | (simp; done) | (simp [*]; done)), H', ⟨by first | omega | exact Nat.le_refl _⟩, ⟨by (with_reducible repeat (first | refine blk_drewN ?_ _ | refine blk_drew ?_ | refine blk_alloc ?_ _)); exact BK163.out⟩, ⟨by (with_reducible repeat (first | refine blk_drewN ?_ _ | refine blk_drew ?_ | refine blk_alloc ?_ _)); exact BK164.out⟩, ⟨by repeat (first | (with_reducible first | exact HB.out | apply below_alloc | apply pw_below_drewN | apply below_drew1 | refine below_set ?_ GE163.out | refine below_set ?_ GE164.out) | exact HB.out)⟩⟩
    case rest =>
      clear HC5
      try clear c1
      try clear p2
      try clear c4
      try clear c8
      try clear c11
      try clear c11b0
      try clear c12
      try clear c14
      try clear hcz13_0
      try clear hcz13_1
      try clear hcz15_0
      try clear hcz15_1
      try clear hcz9_0
      try clear hcz9_1
      try clear hcz9_2
      try clear hfz13_0
      try clear hfz13_1
      try clear hfz15_0
      try clear hfz15_1
      try clear hfz9_0
      try clear hfz9_1
      try clear hfz9_2
      obtain ⟨kq, x27_4, rfl, HA, HJ4, BK163, BK164, HB⟩ := hcut
      cases kq with
      | zero => exact absurd HA.out (by simp [impl_Contour.j0])
      | succ kj4 =>
        have H := HA.out
        clear HA
        simp only [impl_Contour.j0] at H
        by_cases c16 : x27_4 = true
        · subst c16
          have H1 : (some (([] : List (S43)), 5)) = some (r1, r2) := by rw [if_pos rfl] at H; exact H
          clear H
          have H := H1
          clear H1
          simp only [Option.some.injEq, Prod.mk.injEq] at H
          obtain ⟨rfl, rfl⟩ := H
          go_wp2
          go_ret2
          exact ⟨_, by first | rfl | (simp [errW_none, errW_some] <;> rfl) | (simp [*, errW_none, errW_some] <;> rfl), by first | exact Kd.R_nil _ _ _ _ _ | exact Kd.N_nil _ _ _ _ _ | exact Kd.V_nil _ _ _ _ _ | exact Kd.Q_nil _ _ _ _ _ | exact Kd.S_nil _ _ _ _ _, by repeat (first | (with_reducible first | exact HB.out | apply below_alloc | apply pw_below_drewN | apply below_drew1 | refine below_set ?_ GE163.out | refine below_set ?_ GE164.out) | exact HB.out)⟩
        · replace c16 := Bool.eq_false_iff.mpr c16
          subst c16
          have H1 : (impl_Contour.l0 kj4 (-1) l0_2 (l0_2.length : Int) 0 a0_0 a0_1 l0_2 a1 0) = some (r1, r2) := by rw [if_neg (show ¬ (false = true) by decide)] at H; exact H
          clear H
          have H := H1
          clear H1
          have HC17 := Aside0.mk H
          clear H
          have hnb18 := NB163_164.out
          have hnc18 := NB164_163.out
          have hcz19_0 : wc.cell? ⟨gb163, 0, none⟩ = some (.int .i64 a0_0) := (blk_cell BK163.out 0).trans rfl
          have hcz19_1 : wc.cell? ⟨gb163, 1, none⟩ = some (.int .i64 a0_1) := (blk_cell BK163.out 1).trans rfl
          have hcz19_2 : wc.cell? ⟨gb163, 2, none⟩ = some (.slice A0_2 l0_2.length c0_2) := (blk_cell BK163.out 2).trans rfl
          have hfz19_0 := blk_frozen BK163.out 0
          have hfz19_1 := blk_frozen BK163.out 1
          have hfz19_2 := blk_frozen BK163.out 2
          go_upto_block 0 with (fail)
          go_cut [7] (fun v7 wc => ∃ (kq : Nat) (x7_16 : Int), v7 = .int .i64 x7_16 ∧ Aside0 (impl_Contour.j2 kq x7_16 a0_0 a0_1 l0_2 a1 0 = some (r1, r2)) ∧ Aside0 (kq ≤ kj4) ∧ Aside0 (wc.heap[gb163]? = some (.cells #[.int .i64 a0_0, .int .i64 a0_1, (.slice A0_2 l0_2.length c0_2)] 26 (0, 0))) ∧ Aside0 (wc.heap[gb164]? = some (.cells #[.int .i64 a1] 3 (0, 0))) ∧ Aside0 (Below w.heap.size w wc))
          case first =>
            have H := HC17.out
            clear HC17
            have H' := Aside0.mk H
            clear H
            go_wp2
            go_loopg [7, 32] kj4 (fun kq v7 v32 w' => ∃ (x7_2 : Int) (x32_2 : Int), v7 = .int .i64 x7_2 ∧ v32 = .int .i64 x32_2 ∧ Aside0 (impl_Contour.l0 kq x7_2 l0_2 (l0_2.length : Int) x32_2 a0_0 a0_1 l0_2 a1 0 = some (r1, r2)) ∧ Aside0 (kq ≤ kj4) ∧ Aside0 (w'.heap[gb163]? = some (.cells #[.int .i64 a0_0, .int .i64 a0_1, (.slice A0_2 l0_2.length c0_2)] 26 (0, 0))) ∧ Aside0 (w'.heap[gb164]? = some (.cells #[.int .i64 a1] 3 (0, 0))) ∧ Aside0 (Below w.heap.size w w'))
            case atStart => exact ⟨((-1)), (0), (by first | rfl | (simp; done) | (simp [*]; done)), (by first | rfl | (simp; done) | (simp [*]; done)), H', ⟨Nat.le_refl _⟩, ⟨by (with_reducible repeat (first | refine blk_drewN ?_ _ | refine blk_drew ?_ | refine blk_alloc ?_ _)); exact BK163.out⟩, ⟨by (with_reducible repeat (first | refine blk_drewN ?_ _ | refine blk_drew ?_ | refine blk_alloc ?_ _)); exact BK164.out⟩, ⟨by repeat (first | (with_reducible first | exact HB.out | apply below_alloc | apply pw_below_drewN | apply below_drew1 | refine below_set ?_ GE163.out | refine below_set ?_ GE164.out) | exact HB.out)⟩⟩
            case round =>
              clear H'
              try clear c1
              try clear p2
              try clear c4
              try clear c8
              try clear c11
              try clear c11b0
              try clear c12
              try clear c14
              try clear c16
              try clear c17
              try clear c18
              try clear hcz13_0
              try clear hcz13_1
              try clear hcz15_0
              try clear hcz15_1
              try clear hcz19_0
              try clear hcz19_1
              try clear hcz19_2
              try clear hcz9_0
              try clear hcz9_1
              try clear hcz9_2
              try clear hfz13_0
              try clear hfz13_1
              try clear hfz15_0
              try clear hfz15_1
              try clear hfz19_0
              try clear hfz19_1
              try clear hfz19_2
              try clear hfz9_0
              try clear hfz9_1
              try clear hfz9_2
              try clear p2
              obtain ⟨x7_2, x32_2, rfl, rfl, HA, HK2, BK163, BK164, HB⟩ := hrel
              cases gk with
              | zero => exact absurd HA.out (by simp [impl_Contour.l0])
              | succ k2 =>
                have H := HA.out
                clear HA
                simp only [impl_Contour.l0] at H
                by_cases c20 : x32_2 < (l0_2.length : Int)
                · rw [if_pos c20] at H
                  have c20b0 : decide (x32_2 < (l0_2.length : Int)) = true := decide_eq_true c20
                  clear c20
                  (first | rw [c20b0] | (simp only [i64_w, i32_w]; rw [c20b0]) | skip)
                  by_cases c21 : 0 ≤ x32_2
                  · rw [if_pos c21] at H
                    have c21b0 : decide (0 ≤ x32_2) = true := decide_eq_true c21
                    clear c21
                    by_cases c22 : x32_2 < (l0_2.length : Int)
                    · rw [if_pos c22] at H
                      have c22b0 : decide (x32_2 < (l0_2.length : Int)) = true := decide_eq_true c22
                      clear c22
                      by_cases c23 : (rd l0_2 x32_2) > a1
                      · rw [if_pos c23] at H
                        have c23b0 : decide (a1 < (rd l0_2 x32_2)) = true := decide_eq_true c23
                        clear c23
                        have H' := Aside0.mk H
                        clear H
                        have p166 : 0 ≤ (x32_2 : Int) := of_decide_eq_true (by first | (with_reducible assumption) | assumption)
                        have q166 : x32_2 < (l0_2.length : Int) := of_decide_eq_true (by first | (with_reducible assumption) | assumption)
                        obtain ⟨ad166, e166, hx166_0⟩ := Kd.at_int HR0_2.out x32_2 p166 q166
                        cases e166
                        replace hx166_0 := (HB.out.cell (World.block_lt_of_cell? w _ hx166_0)).trans hx166_0
                        replace p166 := eq_true p166
                        replace q166 := eq_true q166
                        have hnb24 := NB164_163.out
                        have hnc24 := NB163_164.out
                        have hcz25_0 : wr.cell? ⟨gb164, 0, none⟩ = some (.int .i64 a1) := (blk_cell BK164.out 0).trans rfl
                        
                        have hfz25_0 := blk_frozen BK164.out 0
                        
                        go_wp2
                        go_meet
                        case rel => exact ⟨_, (x32_2), (by first | rfl | (simp; done) | (simp [*]; done)), H', ⟨by have := HJ4.out; have := HK2.out; first | omega | exact Nat.le_refl _⟩, ⟨by (with_reducible repeat (first | refine blk_drewN ?_ _ | refine blk_drew ?_ | refine blk_alloc ?_ _)); exact BK163.out⟩, ⟨by (with_reducible repeat (first | refine blk_drewN ?_ _ | refine blk_drew ?_ | refine blk_alloc ?_ _)); exact BK164.out⟩, ⟨by repeat (first | (with_reducible first | exact HB.out | apply below_alloc | apply pw_below_drewN | apply below_drew1 | refine below_set ?_ GE163.out | refine below_set ?_ GE164.out) | exact HB.out)⟩⟩
                      · rw [if_neg c23] at H
                        have c23b0 : decide (a1 < (rd l0_2 x32_2)) = false := decide_eq_false c23
                        clear c23
                        have H' := Aside0.mk H
                        clear H
                        have p166 : 0 ≤ (x32_2 : Int) := of_decide_eq_true (by first | (with_reducible assumption) | assumption)
                        have q166 : x32_2 < (l0_2.length : Int) := of_decide_eq_true (by first | (with_reducible assumption) | assumption)
                        obtain ⟨ad166, e166, hx166_0⟩ := Kd.at_int HR0_2.out x32_2 p166 q166
                        cases e166
                        replace hx166_0 := (HB.out.cell (World.block_lt_of_cell? w _ hx166_0)).trans hx166_0
                        replace p166 := eq_true p166
                        replace q166 := eq_true q166
                        have hnb26 := NB164_163.out
                        have hnc26 := NB163_164.out
                        have hcz27_0 : wr.cell? ⟨gb164, 0, none⟩ = some (.int .i64 a1) := (blk_cell BK164.out 0).trans rfl
                        
                        have hfz27_0 := blk_frozen BK164.out 0
                        
                        go_wp2
                        go_roundg k2
                        case measure => have := HJ4.out; have := HK2.out; omega
                        case rel => exact ⟨(x7_2), (wrap64 (x32_2 + 1)), (by first | rfl | (simp; done) | (simp [*]; done)), (by first | rfl | (simp; done) | (simp [*]; done)), H', ⟨by have := HJ4.out; have := HK2.out; omega⟩, ⟨by (with_reducible repeat (first | refine blk_drewN ?_ _ | refine blk_drew ?_ | refine blk_alloc ?_ _)); exact BK163.out⟩, ⟨by (with_reducible repeat (first | refine blk_drewN ?_ _ | refine blk_drew ?_ | refine blk_alloc ?_ _)); exact BK164.out⟩, ⟨by repeat (first | (with_reducible first | exact HB.out | apply below_alloc | apply pw_below_drewN | apply below_drew1 | refine below_set ?_ GE163.out | refine below_set ?_ GE164.out) | exact HB.out)⟩⟩
                    · rw [if_neg c22] at H
                      exact absurd H (by simp)
                  · rw [if_neg c21] at H
                    exact absurd H (by simp)
                · rw [if_neg c20] at H
                  have c20b0 : decide (x32_2 < (l0_2.length : Int)) = false := decide_eq_false c20
                  clear c20
                  (first | rw [c20b0] | (simp only [i64_w, i32_w]; rw [c20b0]) | skip)
                  have H' := Aside0.mk H
                  clear H
                  go_wp2
                  go_meet
                  case rel => exact ⟨_, (x7_2), (by first | rfl | (simp; done) | (simp [*]; done)), H', ⟨by have := HJ4.out; have := HK2.out; first | omega | exact Nat.le_refl _⟩, ⟨by (with_reducible repeat (first | refine blk_drewN ?_ _ | refine blk_drew ?_ | refine blk_alloc ?_ _)); exact BK163.out⟩, ⟨by (with_reducible repeat (first | refine blk_drewN ?_ _ | refine blk_drew ?_ | refine blk_alloc ?_ _)); exact BK164.out⟩, ⟨by repeat (first | (with_reducible first | exact HB.out | apply below_alloc | apply pw_below_drewN | apply below_drew1 | refine below_set ?_ GE163.out | refine below_set ?_ GE164.out) | exact HB.out)⟩⟩
          case rest =>
            clear HC17
            try clear c1
            try clear p1
            try clear q1
            try clear hx1
            try clear c2
            try clear p2
            try clear c4
            try clear p6
            try clear c8
            try clear c11
            try clear c11b0
            try clear c12
            try clear c14
            try clear c16
            try clear p16
            try clear q16
            try clear hx16
            try clear c17
            try clear c18
            try clear c20
            try clear c20b0
            try clear c21
            try clear c21b0
            try clear c22
            try clear c22b0
            try clear c23
            try clear c23b0
            try clear c24
            try clear c26
            try clear hcz13_0
            try clear hcz13_1
            try clear hcz15_0
            try clear hcz15_1
            try clear hcz19_0
            try clear hcz19_1
            try clear hcz19_2
            try clear hcz25_0
            try clear hcz25_1
            try clear hcz27_0
            try clear hcz27_1
            try clear hcz9_0
            try clear hcz9_1
            try clear hcz9_2
            try clear hfz13_0
            try clear hfz13_1
            try clear hfz15_0
            try clear hfz15_1
            try clear hfz19_0
            try clear hfz19_1
            try clear hfz19_2
            try clear hfz25_0
            try clear hfz25_1
            try clear hfz27_0
            try clear hfz27_1
            try clear hfz9_0
            try clear hfz9_1
            try clear hfz9_2
            try clear hx166_0
            try clear p166
            try clear p2
            try clear q166
            obtain ⟨kq, x7_16, rfl, HA, HJ16, BK163, BK164, HB⟩ := hcut
            cases kq with
            | zero => exact absurd HA.out (by simp [impl_Contour.j2])
            | succ kj16 =>
              have H := HA.out
              clear HA
              simp only [impl_Contour.j2] at H
              by_cases c28 : x7_16 < 0
              · rw [if_pos c28] at H
                have c28b0 : decide (x7_16 < 0) = true := decide_eq_true c28
                clear c28
                simp only [Option.some.injEq, Prod.mk.injEq] at H
                obtain ⟨rfl, rfl⟩ := H
                go_wp2
                go_ret2
                exact ⟨_, by first | rfl | (simp [errW_none, errW_some] <;> rfl) | (simp [*, errW_none, errW_some] <;> rfl), by first | exact Kd.R_nil _ _ _ _ _ | exact Kd.N_nil _ _ _ _ _ | exact Kd.V_nil _ _ _ _ _ | exact Kd.Q_nil _ _ _ _ _ | exact Kd.S_nil _ _ _ _ _, by repeat (first | (with_reducible first | exact HB.out | apply below_alloc | apply pw_below_drewN | apply below_drew1 | refine below_set ?_ GE163.out | refine below_set ?_ GE164.out) | exact HB.out)⟩
              · rw [if_neg c28] at H
                have c28b0 : decide (x7_16 < 0) = false := decide_eq_false c28
                clear c28
                by_cases c29 : a0_0 = 0
                · rw [if_pos c29] at H
                  exact absurd H (by simp)
                · rw [if_neg c29] at H
                  have c29b0 : (a0_0 == 0) = false := beq_eq_false_iff_ne.mpr c29
                  have c29b1 : (a0_0 != 0) = true := bne_iff_ne.mpr c29
                  obtain ⟨y169, hy169⟩ : ∃ y_ : List (S43), y_ = (([(⟨1, 0⟩ : S43), (⟨0, 1⟩ : S43), (⟨(-1), 0⟩ : S43), (⟨0, (-1)⟩ : S43)] : List (S43))) := ⟨_, rfl⟩
                  replace H : (impl_Contour.l1 kj16 y169 (([(⟨0, 0⟩ : S43), (⟨(-1), 0⟩ : S43), (⟨(-1), (-1)⟩ : S43), (⟨0, (-1)⟩ : S43)] : List (S43))) (([(⟨0, (-1)⟩ : S43), (⟨0, 0⟩ : S43), (⟨(-1), 0⟩ : S43), (⟨(-1), (-1)⟩ : S43)] : List (S43))) 0 (([(⟨Int.tmod x7_16 a0_0, wrap64 (Int.tdiv x7_16 a0_0)⟩ : S43)] : List (S43))) a0_0 a0_1 l0_2 a1 0 (Int.tmod x7_16 a0_0) (wrap64 (Int.tdiv x7_16 a0_0)) (Int.tmod x7_16 a0_0) (wrap64 (Int.tdiv x7_16 a0_0))) = some (r1, r2) := by first | (rw [hy169]; with_reducible exact H) | (have H2_ := (Option.bind_some _ _).symm.trans H; rw [hy169]; with_reducible exact H2_) | (have H2_ := (Option.bind_some _ _).symm.trans H; with_reducible exact H2_) | with_reducible exact H | (rw [hy169]; exact H) | exact H
                  have Ny169 := Aside0.mk hy169
                  clear hy169
                  obtain ⟨y172, hy172⟩ : ∃ y_ : List (S43), y_ = (([(⟨0, 0⟩ : S43), (⟨(-1), 0⟩ : S43), (⟨(-1), (-1)⟩ : S43), (⟨0, (-1)⟩ : S43)] : List (S43))) := ⟨_, rfl⟩
                  replace H : (impl_Contour.l1 kj16 y169 y172 (([(⟨0, (-1)⟩ : S43), (⟨0, 0⟩ : S43), (⟨(-1), 0⟩ : S43), (⟨(-1), (-1)⟩ : S43)] : List (S43))) 0 (([(⟨Int.tmod x7_16 a0_0, wrap64 (Int.tdiv x7_16 a0_0)⟩ : S43)] : List (S43))) a0_0 a0_1 l0_2 a1 0 (Int.tmod x7_16 a0_0) (wrap64 (Int.tdiv x7_16 a0_0)) (Int.tmod x7_16 a0_0) (wrap64 (Int.tdiv x7_16 a0_0))) = some (r1, r2) := by first | (rw [hy172]; with_reducible exact H) | (have H2_ := (Option.bind_some _ _).symm.trans H; rw [hy172]; with_reducible exact H2_) | (have H2_ := (Option.bind_some _ _).symm.trans H; with_reducible exact H2_) | with_reducible exact H | (rw [hy172]; exact H) | exact H
                  have Ny172 := Aside0.mk hy172
                  clear hy172
                  obtain ⟨y175, hy175⟩ : ∃ y_ : List (S43), y_ = (([(⟨0, (-1)⟩ : S43), (⟨0, 0⟩ : S43), (⟨(-1), 0⟩ : S43), (⟨(-1), (-1)⟩ : S43)] : List (S43))) := ⟨_, rfl⟩
                  replace H : (impl_Contour.l1 kj16 y169 y172 y175 0 (([(⟨Int.tmod x7_16 a0_0, wrap64 (Int.tdiv x7_16 a0_0)⟩ : S43)] : List (S43))) a0_0 a0_1 l0_2 a1 0 (Int.tmod x7_16 a0_0) (wrap64 (Int.tdiv x7_16 a0_0)) (Int.tmod x7_16 a0_0) (wrap64 (Int.tdiv x7_16 a0_0))) = some (r1, r2) := by first | (rw [hy175]; with_reducible exact H) | (have H2_ := (Option.bind_some _ _).symm.trans H; rw [hy175]; with_reducible exact H2_) | (have H2_ := (Option.bind_some _ _).symm.trans H; with_reducible exact H2_) | with_reducible exact H | (rw [hy175]; exact H) | exact H
                  have Ny175 := Aside0.mk hy175
                  clear hy175
                  obtain ⟨y178, hy178⟩ : ∃ y_ : List (S43), y_ = (([(⟨Int.tmod x7_16 a0_0, wrap64 (Int.tdiv x7_16 a0_0)⟩ : S43)] : List (S43))) := ⟨_, rfl⟩
                  replace H : (impl_Contour.l1 kj16 y169 y172 y175 0 y178 a0_0 a0_1 l0_2 a1 0 (Int.tmod x7_16 a0_0) (wrap64 (Int.tdiv x7_16 a0_0)) (Int.tmod x7_16 a0_0) (wrap64 (Int.tdiv x7_16 a0_0))) = some (r1, r2) := by first | (rw [hy178]; with_reducible exact H) | (have H2_ := (Option.bind_some _ _).symm.trans H; rw [hy178]; with_reducible exact H2_) | (have H2_ := (Option.bind_some _ _).symm.trans H; with_reducible exact H2_) | with_reducible exact H | (rw [hy178]; exact H) | exact H
                  have Ny178 := Aside0.mk hy178
                  clear hy178
                  have H' := Aside0.mk H
                  clear H
                  try go_wp2
                  have n0_ := Aside0.mk (blk_drew BK163.out)
                  have n1_ := Aside0.mk (blk_drew BK164.out)
                  have n2_ := Aside0.mk (below_drew1 HB.out)
                  clear BK163
                  clear BK164
                  clear HB
                  have BK163 := n0_
                  have BK164 := n1_
                  have HB := n2_
                  clear n0_ n1_ n2_
                  refine start_ (n := 11) (S := fun w' => w'.cell? ⟨gb163, 0, none⟩ = some (.int .i64 a0_0) ∧ w'.cell? ⟨gb163, 1, none⟩ = some (.int .i64 a0_1) ∧ w'.cell? ⟨gb163, 2, none⟩ = some (.slice A0_2 l0_2.length c0_2)) (ds := []) #[false, false, false, false, false, false, false, false, false, false, false] (by kernel_rfl) rfl rfl ⟨(blk_cell BK163.out 0).trans rfl, (blk_cell BK163.out 1).trans rfl, (blk_cell BK163.out 2).trans rfl⟩ (fun hHeld => ?_); refine with_tabW impl_Contour.tab15 impl_Contour.bits15 (fun HT_ HW_ => ?_)
                  generalize wc.drew = w30 at BK163 BK164 HB hHeld ⊢
                  refine pure_ (i := 0) (N := some 44) (v := ?_) (a' := ?_) #[true, false, false, false, false, false, false, false, false, false, false] rfl rfl (any_of HT_.out (by kernel_rfl)) (fun _ _ _ h => h) (Or.inl ⟨by rfl, ?_⟩) ?_ ?_
                  rotate_left
                  · intro w'
                    go_simp
                    with_reducible rfl
                  rotate_left
                  · simp only [Act.put, List.setIfInBounds_toArray, List.set_cons_zero, List.set_cons_succ, i64_w, i32_w]
                    rfl
                  refine pure_ (i := 1) (N := some 45) (v := ?_) (a' := ?_) #[true, true, false, false, false, false, false, false, false, false, false] rfl rfl (any_of HT_.out (by kernel_rfl)) (fun _ _ _ h => h) (Or.inl ⟨by rfl, ?_⟩) ?_ ?_
                  rotate_left
                  · intro w'
                    go_simp
                    with_reducible rfl
                  rotate_left
                  · simp only [Act.put, List.setIfInBounds_toArray, List.set_cons_zero, List.set_cons_succ, i64_w, i32_w]
                    rfl
                  refine pure_ (i := 4) (N := some 48) (v := ?_) (a' := ?_) #[true, true, false, false, true, false, false, false, false, false, false] rfl rfl (any_of HT_.out (by kernel_rfl)) (fun _ _ _ h => h) (Or.inl ⟨by rfl, ?_⟩) ?_ ?_
                  rotate_left
                  · intro w'
                    go_simp
                    with_reducible rfl
                  rotate_left
                  · simp only [Act.put, List.setIfInBounds_toArray, List.set_cons_zero, List.set_cons_succ, i64_w, i32_w]
                    rfl
                  refine pure_ (i := 5) (N := some 49) (v := ?_) (a' := ?_) #[true, true, false, false, true, true, false, false, false, false, false] rfl rfl (any_of HT_.out (by kernel_rfl)) (fun _ _ _ h => h) (Or.inl ⟨by rfl, ?_⟩) ?_ ?_
                  rotate_left
                  · intro w'
                    go_simp
                    with_reducible rfl
                  rotate_left
                  · simp only [Act.put, List.setIfInBounds_toArray, List.set_cons_zero, List.set_cons_succ, i64_w, i32_w]
                    rfl
                  refine take_ (i := 2) (N := some 46) (v := ?_) (a' := ?_) #[true, true, true, false, true, true, false, false, false, false, false] rfl rfl (take_ofW HT_.out HW_.out (by kernel_rfl)) (fun _ _ _ h => h) (Or.inl ⟨by rfl, ?_⟩) hHeld ?_ ?_
                  rotate_left
                  · rintro w' ⟨s0, s1, s2⟩
                    go_simp
                    with_reducible rfl
                  rotate_left
                  · simp only [Act.put, List.setIfInBounds_toArray, List.set_cons_zero, List.set_cons_succ, i64_w, i32_w]
                    rfl
                  refine pure_ (i := 3) (N := some 47) (v := ?_) (a' := ?_) #[true, true, true, true, true, true, false, false, false, false, false] rfl rfl (any_of HT_.out (by kernel_rfl)) (fun _ _ _ h => h) (Or.inl ⟨by rfl, ?_⟩) ?_ ?_
                  rotate_left
                  · intro w'
                    go_simp
                    with_reducible rfl
                  rotate_left
                  · simp only [Act.put, List.setIfInBounds_toArray, List.set_cons_zero, List.set_cons_succ, i64_w, i32_w]
                    rfl
                  refine take_ (i := 6) (N := some 50) (v := ?_) (a' := ?_) #[true, true, true, true, true, true, true, false, false, false, false] rfl rfl (take_ofW HT_.out HW_.out (by kernel_rfl)) (fun _ _ _ h => h) (Or.inl ⟨by rfl, ?_⟩) hHeld ?_ ?_
                  rotate_left
                  · rintro w' ⟨s0, s1, s2⟩
                    go_simp
                    with_reducible rfl
                  rotate_left
                  · simp only [Act.put, List.setIfInBounds_toArray, List.set_cons_zero, List.set_cons_succ, i64_w, i32_w]
                    rfl
                  refine pure_ (i := 7) (N := some 51) (v := ?_) (a' := ?_) #[true, true, true, true, true, true, true, true, false, false, false] rfl rfl (any_of HT_.out (by kernel_rfl)) (fun _ _ _ h => h) (Or.inl ⟨by rfl, ?_⟩) ?_ ?_
                  rotate_left
                  · intro w'
                    go_simp
                    with_reducible rfl
                  rotate_left
                  · simp only [Act.put, List.setIfInBounds_toArray, List.set_cons_zero, List.set_cons_succ, i64_w, i32_w]
                    rfl
                  refine pure_ (i := 8) (N := some 52) (v := ?_) (a' := ?_) #[true, true, true, true, true, true, true, true, true, false, false] rfl rfl (any_of HT_.out (by kernel_rfl)) (fun _ _ _ h => h) (Or.inl ⟨by rfl, ?_⟩) ?_ ?_
                  rotate_left
                  · intro w'
                    go_simp
                    with_reducible rfl
                  rotate_left
                  · simp only [Act.put, List.setIfInBounds_toArray, List.set_cons_zero, List.set_cons_succ, i64_w, i32_w]
                    rfl
                  refine one_ (i := 9) (N := some 10) #[true, true, true, true, true, true, true, true, true, true, false] rfl rfl (one_of HT_.out (by kernel_rfl)) (by decide) (fun K hK => ?_)
                  refine box_step ?hg (N := 10) ?hd (cs := #[.int .i64 0, .int .i64 0]) (t := 43) ?hr ?_; (case hd => rfl); (case hg => rfl); (case hr => first | (go_simp; done) | (go_simp; rfl))
                  intro gb167 hg w31 hbox hb
                  have n0_ := Aside0.mk (blk_below (g := gb163) (o := .cells #[.int .i64 a0_0, .int .i64 a0_1, .slice A0_2 l0_2.length c0_2] 26 (0, 0)) (by (with_reducible repeat (first | refine blk_drewN ?_ _ | refine blk_drew ?_ | refine blk_alloc ?_ _)); exact BK163.out) hb)
                  have n1_ := Aside0.mk (blk_below (g := gb164) (o := .cells #[.int .i64 a1] 3 (0, 0)) (by (with_reducible repeat (first | refine blk_drewN ?_ _ | refine blk_drew ?_ | refine blk_alloc ?_ _)); exact BK164.out) hb)
                  have n2_ := Aside0.mk (below_step (by repeat (first | (with_reducible first | exact HB.out | apply below_alloc | apply pw_below_drewN | apply below_drew1 | refine below_set ?_ GE163.out | refine below_set ?_ GE164.out) | exact HB.out)) hb)
                  have n3_ := Aside0.mk (hbox)
                  have n4_ := Aside0.mk ((by rw [hg]; exact (below_size (by repeat (first | (with_reducible first | exact HB.out | apply below_alloc | apply pw_below_drewN | apply below_drew1 | refine below_set ?_ GE163.out | refine below_set ?_ GE164.out) | exact HB.out))) : w.heap.size ≤ gb167))
                  have n5_ := Aside0.mk ((by rw [hg]; exact (below_size (by repeat (first | (with_reducible first | exact HB.out | apply below_alloc | apply pw_below_drewN | apply below_drew1 | refine below_set ?_ GE163.out | refine below_set ?_ GE164.out) | exact HB.out))) : w.heap.size ≤ gb167))
                  have n6_ := Aside0.mk ((by rw [hg]; exact Nat.ne_of_lt (blk_lt (g := gb163) (o := .cells #[.int .i64 a0_0, .int .i64 a0_1, .slice A0_2 l0_2.length c0_2] 26 (0, 0)) (by (with_reducible repeat (first | refine blk_drewN ?_ _ | refine blk_drew ?_ | refine blk_alloc ?_ _)); exact BK163.out)) : gb163 ≠ gb167))
                  have n7_ := Aside0.mk ((by rw [hg]; exact Nat.ne_of_gt (blk_lt (g := gb163) (o := .cells #[.int .i64 a0_0, .int .i64 a0_1, .slice A0_2 l0_2.length c0_2] 26 (0, 0)) (by (with_reducible repeat (first | refine blk_drewN ?_ _ | refine blk_drew ?_ | refine blk_alloc ?_ _)); exact BK163.out)) : gb167 ≠ gb163))
                  have n8_ := Aside0.mk ((by rw [hg]; exact Nat.ne_of_lt (blk_lt (g := gb164) (o := .cells #[.int .i64 a1] 3 (0, 0)) (by (with_reducible repeat (first | refine blk_drewN ?_ _ | refine blk_drew ?_ | refine blk_alloc ?_ _)); exact BK164.out)) : gb164 ≠ gb167))
                  have n9_ := Aside0.mk ((by rw [hg]; exact Nat.ne_of_gt (blk_lt (g := gb164) (o := .cells #[.int .i64 a1] 3 (0, 0)) (by (with_reducible repeat (first | refine blk_drewN ?_ _ | refine blk_drew ?_ | refine blk_alloc ?_ _)); exact BK164.out)) : gb167 ≠ gb164))
                  clear BK163
                  clear BK164
                  clear HB
                  have BK163 := n0_
                  have BK164 := n1_
                  have HB := n2_
                  have BK167 := n3_
                  have GW167 := n4_
                  have GE167 := n5_
                  have NB163_167 := n6_
                  have NB167_163 := n7_
                  have NB164_167 := n8_
                  have NB167_164 := n9_
                  clear n0_ n1_ n2_ n3_ n4_ n5_ n6_ n7_ n8_ n9_
                  clear hb hbox hg
                  refine hK.out _ _ ⟨(blk_cell BK163.out 0).trans rfl, (blk_cell BK163.out 1).trans rfl, (blk_cell BK163.out 2).trans rfl⟩ (fun hHeld => ?_)
                  clear hK K
                  refine norm_ (a' := ?_) ?_ ?_
                  rotate_left
                  · show Act.put _ (some 10) _ = _
                    simp only [Act.put, List.setIfInBounds_toArray, List.set_cons_zero, List.set_cons_succ, i64_w, i32_w]
                    rfl
                  refine one_ (i := 10) (N := none) #[true, true, true, true, true, true, true, true, true, true, true] rfl rfl (one_of HT_.out (by kernel_rfl)) (by decide) (fun K hK => ?_)
                  have hs32 : w31.cell? ⟨gb167, 0, none⟩ = some (.int .i64 0) := (blk_cell BK167.out 0).trans rfl
                  have hfs32 := blk_frozen BK167.out 0
                  have hns32_0 := NB163_167.out
                  have hns32_1 := NB164_167.out
                  have hms32_0 := NB167_163.out
                  have hms32_1 := NB167_164.out
                  have hs33 : w31.cell? ⟨gb167, 1, none⟩ = some (.int .i64 0) := (blk_cell BK167.out 1).trans rfl
                  have hfs33 := blk_frozen BK167.out 1
                  have hns33_0 := NB163_167.out
                  have hns33_1 := NB164_167.out
                  have hms33_0 := NB167_163.out
                  have hms33_1 := NB167_164.out
                  refine skip_ (w1 := ?_) (by rfl) rfl ?_ ?_
                  rotate_left
                  · go_simp
                    rfl
                  refine hK.out _ _ ⟨((cell_far (p := ⟨gb167, _, none⟩) NB163_167.out _).trans (((cell_far (p := ⟨gb167, _, none⟩) NB163_167.out _).trans (hHeld.1)))), ((cell_far (p := ⟨gb167, _, none⟩) NB163_167.out _).trans (((cell_far (p := ⟨gb167, _, none⟩) NB163_167.out _).trans (hHeld.2.1)))), ((cell_far (p := ⟨gb167, _, none⟩) NB163_167.out _).trans (((cell_far (p := ⟨gb167, _, none⟩) NB163_167.out _).trans (hHeld.2.2))))⟩ (fun hHeld => ?_)
                  clear hK K
                  refine done_ (done_of HT_.out (by kernel_rfl)) ?_
                  have hnb34 := NB167_163.out
                  have hnc34 := NB163_167.out
                  have hnb35 := NB167_164.out
                  have hnc35 := NB164_167.out
                  have hcz36_0 : w31.cell? ⟨gb167, 0, none⟩ = some (.int .i64 0) := (blk_cell BK167.out 0).trans rfl
                  have hcz36_1 : w31.cell? ⟨gb167, 1, none⟩ = some (.int .i64 0) := (blk_cell BK167.out 1).trans rfl
                  have hfz36_0 := blk_frozen BK167.out 0
                  have hfz36_1 := blk_frozen BK167.out 1
                  try go_wp2_with (first | ((with_reducible refine gate_dst (N := 11) rfl ?_); refine box_event ?hg (N := 11) ?hd (cs := #[.int .i64 0, .int .i64 0]) (t := 43) ?hr ?_; (case hd => rfl); (case hg => rfl); (case hr => first | (go_simp; done) | (go_simp; rfl)); intro gb168 hg w37 hbox hb; have n0_ := Aside0.mk (blk_below (g := gb163) (o := .cells #[.int .i64 a0_0, .int .i64 a0_1, .slice A0_2 l0_2.length c0_2] 26 (0, 0)) (by (with_reducible repeat (first | refine blk_drewN ?_ _ | refine blk_drew ?_ | refine blk_alloc ?_ _)); refine blk_far ?_ NB163_167.out _; (with_reducible repeat (first | refine blk_drewN ?_ _ | refine blk_drew ?_ | refine blk_alloc ?_ _)); refine blk_far ?_ NB163_167.out _; (with_reducible repeat (first | refine blk_drewN ?_ _ | refine blk_drew ?_ | refine blk_alloc ?_ _)); exact BK163.out) hb); have n1_ := Aside0.mk (blk_below (g := gb164) (o := .cells #[.int .i64 a1] 3 (0, 0)) (by (with_reducible repeat (first | refine blk_drewN ?_ _ | refine blk_drew ?_ | refine blk_alloc ?_ _)); refine blk_far ?_ NB164_167.out _; (with_reducible repeat (first | refine blk_drewN ?_ _ | refine blk_drew ?_ | refine blk_alloc ?_ _)); refine blk_far ?_ NB164_167.out _; (with_reducible repeat (first | refine blk_drewN ?_ _ | refine blk_drew ?_ | refine blk_alloc ?_ _)); exact BK164.out) hb); have n2_ := Aside0.mk (blk_below (g := gb167) (o := .cells #[.int .i64 (Int.tmod x7_16 a0_0), .int .i64 (wrap64 (Int.tdiv x7_16 a0_0))] 43 (0, 0)) (by (with_reducible repeat (first | refine blk_drewN ?_ _ | refine blk_drew ?_ | refine blk_alloc ?_ _)); refine blk_put (cs := #[.int .i64 (Int.tmod x7_16 a0_0), .int .i64 0]) ?_ 1 _ rfl; (with_reducible repeat (first | refine blk_drewN ?_ _ | refine blk_drew ?_ | refine blk_alloc ?_ _)); refine blk_put (cs := #[.int .i64 0, .int .i64 0]) ?_ 0 _ rfl; (with_reducible repeat (first | refine blk_drewN ?_ _ | refine blk_drew ?_ | refine blk_alloc ?_ _)); exact BK167.out) hb); have n3_ := Aside0.mk (below_step (by repeat (first | (with_reducible first | exact HB.out | apply below_alloc | apply pw_below_drewN | apply below_drew1 | refine below_set ?_ GE163.out | refine below_set ?_ GE164.out | refine below_set ?_ GE167.out) | exact HB.out)) hb); have n4_ := Aside0.mk (hbox); have n5_ := Aside0.mk ((by rw [hg]; exact (below_size (by repeat (first | (with_reducible first | exact HB.out | apply below_alloc | apply pw_below_drewN | apply below_drew1 | refine below_set ?_ GE163.out | refine below_set ?_ GE164.out | refine below_set ?_ GE167.out) | exact HB.out))) : w.heap.size ≤ gb168)); have n6_ := Aside0.mk ((by rw [hg]; exact (below_size (by repeat (first | (with_reducible first | exact HB.out | apply below_alloc | apply pw_below_drewN | apply below_drew1 | refine below_set ?_ GE163.out | refine below_set ?_ GE164.out | refine below_set ?_ GE167.out) | exact HB.out))) : w.heap.size ≤ gb168)); have n7_ := Aside0.mk ((by rw [hg]; exact Nat.ne_of_lt (blk_lt (g := gb163) (o := .cells #[.int .i64 a0_0, .int .i64 a0_1, .slice A0_2 l0_2.length c0_2] 26 (0, 0)) (by (with_reducible repeat (first | refine blk_drewN ?_ _ | refine blk_drew ?_ | refine blk_alloc ?_ _)); refine blk_far ?_ NB163_167.out _; (with_reducible repeat (first | refine blk_drewN ?_ _ | refine blk_drew ?_ | refine blk_alloc ?_ _)); refine blk_far ?_ NB163_167.out _; (with_reducible repeat (first | refine blk_drewN ?_ _ | refine blk_drew ?_ | refine blk_alloc ?_ _)); exact BK163.out)) : gb163 ≠ gb168)); have n8_ := Aside0.mk ((by rw [hg]; exact Nat.ne_of_gt (blk_lt (g := gb163) (o := .cells #[.int .i64 a0_0, .int .i64 a0_1, .slice A0_2 l0_2.length c0_2] 26 (0, 0)) (by (with_reducible repeat (first | refine blk_drewN ?_ _ | refine blk_drew ?_ | refine blk_alloc ?_ _)); refine blk_far ?_ NB163_167.out _; (with_reducible repeat (first | refine blk_drewN ?_ _ | refine blk_drew ?_ | refine blk_alloc ?_ _)); refine blk_far ?_ NB163_167.out _; (with_reducible repeat (first | refine blk_drewN ?_ _ | refine blk_drew ?_ | refine blk_alloc ?_ _)); exact BK163.out)) : gb168 ≠ gb163)); have n9_ := Aside0.mk ((by rw [hg]; exact Nat.ne_of_lt (blk_lt (g := gb164) (o := .cells #[.int .i64 a1] 3 (0, 0)) (by (with_reducible repeat (first | refine blk_drewN ?_ _ | refine blk_drew ?_ | refine blk_alloc ?_ _)); refine blk_far ?_ NB164_167.out _; (with_reducible repeat (first | refine blk_drewN ?_ _ | refine blk_drew ?_ | refine blk_alloc ?_ _)); refine blk_far ?_ NB164_167.out _; (with_reducible repeat (first | refine blk_drewN ?_ _ | refine blk_drew ?_ | refine blk_alloc ?_ _)); exact BK164.out)) : gb164 ≠ gb168)); have n10_ := Aside0.mk ((by rw [hg]; exact Nat.ne_of_gt (blk_lt (g := gb164) (o := .cells #[.int .i64 a1] 3 (0, 0)) (by (with_reducible repeat (first | refine blk_drewN ?_ _ | refine blk_drew ?_ | refine blk_alloc ?_ _)); refine blk_far ?_ NB164_167.out _; (with_reducible repeat (first | refine blk_drewN ?_ _ | refine blk_drew ?_ | refine blk_alloc ?_ _)); refine blk_far ?_ NB164_167.out _; (with_reducible repeat (first | refine blk_drewN ?_ _ | refine blk_drew ?_ | refine blk_alloc ?_ _)); exact BK164.out)) : gb168 ≠ gb164)); have n11_ := Aside0.mk ((by rw [hg]; exact Nat.ne_of_lt (blk_lt (g := gb167) (o := .cells #[.int .i64 (Int.tmod x7_16 a0_0), .int .i64 (wrap64 (Int.tdiv x7_16 a0_0))] 43 (0, 0)) (by (with_reducible repeat (first | refine blk_drewN ?_ _ | refine blk_drew ?_ | refine blk_alloc ?_ _)); refine blk_put (cs := #[.int .i64 (Int.tmod x7_16 a0_0), .int .i64 0]) ?_ 1 _ rfl; (with_reducible repeat (first | refine blk_drewN ?_ _ | refine blk_drew ?_ | refine blk_alloc ?_ _)); refine blk_put (cs := #[.int .i64 0, .int .i64 0]) ?_ 0 _ rfl; (with_reducible repeat (first | refine blk_drewN ?_ _ | refine blk_drew ?_ | refine blk_alloc ?_ _)); exact BK167.out)) : gb167 ≠ gb168)); have n12_ := Aside0.mk ((by rw [hg]; exact Nat.ne_of_gt (blk_lt (g := gb167) (o := .cells #[.int .i64 (Int.tmod x7_16 a0_0), .int .i64 (wrap64 (Int.tdiv x7_16 a0_0))] 43 (0, 0)) (by (with_reducible repeat (first | refine blk_drewN ?_ _ | refine blk_drew ?_ | refine blk_alloc ?_ _)); refine blk_put (cs := #[.int .i64 (Int.tmod x7_16 a0_0), .int .i64 0]) ?_ 1 _ rfl; (with_reducible repeat (first | refine blk_drewN ?_ _ | refine blk_drew ?_ | refine blk_alloc ?_ _)); refine blk_put (cs := #[.int .i64 0, .int .i64 0]) ?_ 0 _ rfl; (with_reducible repeat (first | refine blk_drewN ?_ _ | refine blk_drew ?_ | refine blk_alloc ?_ _)); exact BK167.out)) : gb168 ≠ gb167)); clear BK163; clear BK164; clear BK167; clear HB; have BK163 := n0_; have BK164 := n1_; have BK167 := n2_; have HB := n3_; have BK168 := n4_; have GW168 := n5_; have GE168 := n6_; have NB163_168 := n7_; have NB168_163 := n8_; have NB164_168 := n9_; have NB168_164 := n10_; have NB167_168 := n11_; have NB168_167 := n12_; clear n0_ n1_ n2_ n3_ n4_ n5_ n6_ n7_ n8_ n9_ n10_ n11_ n12_; clear hb hbox hg; have hnb38 := NB168_163.out; have hnc38 := NB163_168.out; have hnb39 := NB168_164.out; have hnc39 := NB164_168.out; have hnb40 := NB168_167.out; have hnc40 := NB167_168.out; have hcz41_0 : w37.cell? ⟨gb168, 0, none⟩ = some (.int .i64 0) := (blk_cell BK168.out 0).trans rfl; have hcz41_1 : w37.cell? ⟨gb168, 1, none⟩ = some (.int .i64 0) := (blk_cell BK168.out 1).trans rfl; have hfz41_0 := blk_frozen BK168.out 0; have hfz41_1 := blk_frozen BK168.out 1) | ((with_reducible refine gate_dst (N := 12) rfl ?_); refine box_event ?hg (N := 12) ?hd (cs := #[.int .i64 0, .int .i64 0, .int .i64 0, .int .i64 0, .int .i64 0, .int .i64 0, .int .i64 0, .int .i64 0]) (t := 70) ?hr ?_; (case hd => rfl); (case hg => rfl); (case hr => first | (go_simp; done) | (go_simp; rfl)); intro gA12 hg wA12 hbox hb; have hcA_0 : wA12.cell? ⟨gA12, 0, none⟩ = some (.int .i64 0) := (blk_cell hbox 0).trans rfl; have hcA_1 : wA12.cell? ⟨gA12, 1, none⟩ = some (.int .i64 0) := (blk_cell hbox 1).trans rfl; have hcA_2 : wA12.cell? ⟨gA12, 2, none⟩ = some (.int .i64 0) := (blk_cell hbox 2).trans rfl; have hcA_3 : wA12.cell? ⟨gA12, 3, none⟩ = some (.int .i64 0) := (blk_cell hbox 3).trans rfl; have hcA_4 : wA12.cell? ⟨gA12, 4, none⟩ = some (.int .i64 0) := (blk_cell hbox 4).trans rfl; have hcA_5 : wA12.cell? ⟨gA12, 5, none⟩ = some (.int .i64 0) := (blk_cell hbox 5).trans rfl; have hcA_6 : wA12.cell? ⟨gA12, 6, none⟩ = some (.int .i64 0) := (blk_cell hbox 6).trans rfl; have hcA_7 : wA12.cell? ⟨gA12, 7, none⟩ = some (.int .i64 0) := (blk_cell hbox 7).trans rfl; have hfA_0 := blk_frozen hbox 0; have hfA_1 := blk_frozen hbox 1; have hfA_2 := blk_frozen hbox 2; have hfA_3 := blk_frozen hbox 3; have hfA_4 := blk_frozen hbox 4; have hfA_5 := blk_frozen hbox 5; have hfA_6 := blk_frozen hbox 6; have hfA_7 := blk_frozen hbox 7; have Hg_ := Aside0.mk hg; have Hx_ := Aside0.mk hbox; have Hb_ := Aside0.mk hb; clear hg hbox hb; (with_reducible refine gate_store (t := 70) (p := 12) rfl ?_); refine store_event (t := 70) (p := 12) (v := ?vo_A12) (w1 := ((((((((wA12.setCell ⟨gA12, 0, none⟩ (.int .i64 1)).setCell ⟨gA12, 1, none⟩ (.int .i64 0)).setCell ⟨gA12, 2, none⟩ (.int .i64 0)).setCell ⟨gA12, 3, none⟩ (.int .i64 1)).setCell ⟨gA12, 4, none⟩ (.int .i64 (-1))).setCell ⟨gA12, 5, none⟩ (.int .i64 0)).setCell ⟨gA12, 6, none⟩ (.int .i64 0)).setCell ⟨gA12, 7, none⟩ (.int .i64 (-1)))) ?hg ?ho ?hn ?hr ?_; (case ho => rfl); (case hg => rfl); (case hn => rfl); (case hr => first | (go_simp; done) | (go_simp; rfl)); intro w42 hw; have hg := Hg_.out; have hbox := Hx_.out; have hb := Hb_.out; clear Hg_ Hx_ Hb_; replace hb := below_set (g := gA12) (j := 0) (v := .int .i64 1) hb (Nat.le_of_eq hg.symm); replace hb := below_set (g := gA12) (j := 1) (v := .int .i64 0) hb (Nat.le_of_eq hg.symm); replace hb := below_set (g := gA12) (j := 2) (v := .int .i64 0) hb (Nat.le_of_eq hg.symm); replace hb := below_set (g := gA12) (j := 3) (v := .int .i64 1) hb (Nat.le_of_eq hg.symm); replace hb := below_set (g := gA12) (j := 4) (v := .int .i64 (-1)) hb (Nat.le_of_eq hg.symm); replace hb := below_set (g := gA12) (j := 5) (v := .int .i64 0) hb (Nat.le_of_eq hg.symm); replace hb := below_set (g := gA12) (j := 6) (v := .int .i64 0) hb (Nat.le_of_eq hg.symm); replace hb := below_set (g := gA12) (j := 7) (v := .int .i64 (-1)) hb (Nat.le_of_eq hg.symm); rw [← hw] at hb; obtain ⟨v170, hv_, ho43⟩ := Kd.R_arr k43 (W := w42) (e := 70) (inner := #[.int .i64 1, .int .i64 0, .int .i64 0, .int .i64 1, .int .i64 (-1), .int .i64 0, .int .i64 0, .int .i64 (-1)]) (xs := ([(⟨1, 0⟩ : S43), (⟨0, 1⟩ : S43), (⟨(-1), 0⟩ : S43), (⟨0, (-1)⟩ : S43)] : List (S43))) (by rw [hw]; exact (blk_put (cs := #[.int .i64 1, .int .i64 0, .int .i64 0, .int .i64 1, .int .i64 (-1), .int .i64 0, .int .i64 0, .int .i64 0]) (blk_put (cs := #[.int .i64 1, .int .i64 0, .int .i64 0, .int .i64 1, .int .i64 (-1), .int .i64 0, .int .i64 0, .int .i64 0]) (blk_put (cs := #[.int .i64 1, .int .i64 0, .int .i64 0, .int .i64 1, .int .i64 (-1), .int .i64 0, .int .i64 0, .int .i64 0]) (blk_put (cs := #[.int .i64 1, .int .i64 0, .int .i64 0, .int .i64 1, .int .i64 0, .int .i64 0, .int .i64 0, .int .i64 0]) (blk_put (cs := #[.int .i64 1, .int .i64 0, .int .i64 0, .int .i64 0, .int .i64 0, .int .i64 0, .int .i64 0, .int .i64 0]) (blk_put (cs := #[.int .i64 1, .int .i64 0, .int .i64 0, .int .i64 0, .int .i64 0, .int .i64 0, .int .i64 0, .int .i64 0]) (blk_put (cs := #[.int .i64 1, .int .i64 0, .int .i64 0, .int .i64 0, .int .i64 0, .int .i64 0, .int .i64 0, .int .i64 0]) (blk_put (cs := #[.int .i64 0, .int .i64 0, .int .i64 0, .int .i64 0, .int .i64 0, .int .i64 0, .int .i64 0, .int .i64 0]) hbox 0 (.int .i64 1) rfl) 1 (.int .i64 0) rfl) 2 (.int .i64 0) rfl) 3 (.int .i64 1) rfl) 4 (.int .i64 (-1)) rfl) 5 (.int .i64 0) rfl) 6 (.int .i64 0) rfl) 7 (.int .i64 (-1)) rfl)) (Nat.le_of_eq hg.symm) (by simp) (Reps.c2 (show Kd.M k43 _ _ _ (⟨1, 0⟩ : S43) [.int .i64 1, .int .i64 0] from (k43_mkM _ _ _ (⟨1, 0⟩ : S43) )) (Reps.c2 (show Kd.M k43 _ _ _ (⟨0, 1⟩ : S43) [.int .i64 0, .int .i64 1] from (k43_mkM _ _ _ (⟨0, 1⟩ : S43) )) (Reps.c2 (show Kd.M k43 _ _ _ (⟨(-1), 0⟩ : S43) [.int .i64 (-1), .int .i64 0] from (k43_mkM _ _ _ (⟨(-1), 0⟩ : S43) )) (Reps.c2 (show Kd.M k43 _ _ _ (⟨0, (-1)⟩ : S43) [.int .i64 0, .int .i64 (-1)] from (k43_mkM _ _ _ (⟨0, (-1)⟩ : S43) )) (Reps.none _ _))))); have HV12_ := Aside0.mk hv_; clear hv_ hw; clear hcA_0 hfA_0; clear hcA_1 hfA_1; clear hcA_2 hfA_2; clear hcA_3 hfA_3; clear hcA_4 hfA_4; clear hcA_5 hfA_5; clear hcA_6 hfA_6; clear hcA_7 hfA_7; clear hbox hg; (first | rw [← Ny169.out] at ho43 | (simp only [Int.reduceToNat] at ho43; rw [← Ny169.out] at ho43)); have n0_ := Aside0.mk (Kd.R_lower (Kd.R_newB (Kd.R_newB (Kd.R_newB ho43 (g := gb164) (o := .cells #[.int .i64 a1] 3 (0, 0)) (by (with_reducible repeat (first | refine blk_drewN ?_ _ | refine blk_drew ?_ | refine blk_alloc ?_ _)); refine blk_far ?_ NB164_168.out _; (with_reducible repeat (first | refine blk_drewN ?_ _ | refine blk_drew ?_ | refine blk_alloc ?_ _)); refine blk_far ?_ NB164_168.out _; (with_reducible repeat (first | refine blk_drewN ?_ _ | refine blk_drew ?_ | refine blk_alloc ?_ _)); exact BK164.out)) (g := gb167) (o := .cells #[.int .i64 (Int.tmod x7_16 a0_0), .int .i64 (wrap64 (Int.tdiv x7_16 a0_0))] 43 (0, 0)) (by (with_reducible repeat (first | refine blk_drewN ?_ _ | refine blk_drew ?_ | refine blk_alloc ?_ _)); refine blk_far ?_ NB167_168.out _; (with_reducible repeat (first | refine blk_drewN ?_ _ | refine blk_drew ?_ | refine blk_alloc ?_ _)); refine blk_far ?_ NB167_168.out _; (with_reducible repeat (first | refine blk_drewN ?_ _ | refine blk_drew ?_ | refine blk_alloc ?_ _)); exact BK167.out)) (g := gb168) (o := .cells #[.int .i64 (Int.tmod x7_16 a0_0), .int .i64 (wrap64 (Int.tdiv x7_16 a0_0))] 43 (0, 0)) (by (with_reducible repeat (first | refine blk_drewN ?_ _ | refine blk_drew ?_ | refine blk_alloc ?_ _)); refine blk_put (cs := #[.int .i64 (Int.tmod x7_16 a0_0), .int .i64 0]) ?_ 1 _ rfl; (with_reducible repeat (first | refine blk_drewN ?_ _ | refine blk_drew ?_ | refine blk_alloc ?_ _)); refine blk_put (cs := #[.int .i64 0, .int .i64 0]) ?_ 0 _ rfl; (with_reducible repeat (first | refine blk_drewN ?_ _ | refine blk_drew ?_ | refine blk_alloc ?_ _)); exact BK168.out)) (below_size (by repeat (first | (with_reducible first | exact HB.out | apply below_alloc | apply pw_below_drewN | apply below_drew1 | refine below_set ?_ GE163.out | refine below_set ?_ GE164.out | refine below_set ?_ GE167.out | refine below_set ?_ GE168.out) | exact HB.out)))); have n1_ := Aside0.mk (blk_below (g := gb163) (o := .cells #[.int .i64 a0_0, .int .i64 a0_1, .slice A0_2 l0_2.length c0_2] 26 (0, 0)) (by (with_reducible repeat (first | refine blk_drewN ?_ _ | refine blk_drew ?_ | refine blk_alloc ?_ _)); refine blk_far ?_ NB163_168.out _; (with_reducible repeat (first | refine blk_drewN ?_ _ | refine blk_drew ?_ | refine blk_alloc ?_ _)); refine blk_far ?_ NB163_168.out _; (with_reducible repeat (first | refine blk_drewN ?_ _ | refine blk_drew ?_ | refine blk_alloc ?_ _)); exact BK163.out) hb); have n2_ := Aside0.mk (blk_below (g := gb164) (o := .cells #[.int .i64 a1] 3 (0, 0)) (by (with_reducible repeat (first | refine blk_drewN ?_ _ | refine blk_drew ?_ | refine blk_alloc ?_ _)); refine blk_far ?_ NB164_168.out _; (with_reducible repeat (first | refine blk_drewN ?_ _ | refine blk_drew ?_ | refine blk_alloc ?_ _)); refine blk_far ?_ NB164_168.out _; (with_reducible repeat (first | refine blk_drewN ?_ _ | refine blk_drew ?_ | refine blk_alloc ?_ _)); exact BK164.out) hb); have n3_ := Aside0.mk (blk_below (g := gb167) (o := .cells #[.int .i64 (Int.tmod x7_16 a0_0), .int .i64 (wrap64 (Int.tdiv x7_16 a0_0))] 43 (0, 0)) (by (with_reducible repeat (first | refine blk_drewN ?_ _ | refine blk_drew ?_ | refine blk_alloc ?_ _)); refine blk_far ?_ NB167_168.out _; (with_reducible repeat (first | refine blk_drewN ?_ _ | refine blk_drew ?_ | refine blk_alloc ?_ _)); refine blk_far ?_ NB167_168.out _; (with_reducible repeat (first | refine blk_drewN ?_ _ | refine blk_drew ?_ | refine blk_alloc ?_ _)); exact BK167.out) hb); have n4_ := Aside0.mk (blk_below (g := gb168) (o := .cells #[.int .i64 (Int.tmod x7_16 a0_0), .int .i64 (wrap64 (Int.tdiv x7_16 a0_0))] 43 (0, 0)) (by (with_reducible repeat (first | refine blk_drewN ?_ _ | refine blk_drew ?_ | refine blk_alloc ?_ _)); refine blk_put (cs := #[.int .i64 (Int.tmod x7_16 a0_0), .int .i64 0]) ?_ 1 _ rfl; (with_reducible repeat (first | refine blk_drewN ?_ _ | refine blk_drew ?_ | refine blk_alloc ?_ _)); refine blk_put (cs := #[.int .i64 0, .int .i64 0]) ?_ 0 _ rfl; (with_reducible repeat (first | refine blk_drewN ?_ _ | refine blk_drew ?_ | refine blk_alloc ?_ _)); exact BK168.out) hb); have n5_ := Aside0.mk (below_step (by repeat (first | (with_reducible first | exact HB.out | apply below_alloc | apply pw_below_drewN | apply below_drew1 | refine below_set ?_ GE163.out | refine below_set ?_ GE164.out | refine below_set ?_ GE167.out | refine below_set ?_ GE168.out) | exact HB.out)) hb); clear BK163; clear BK164; clear BK167; clear BK168; clear HB; have HO171 := n0_; have BK163 := n1_; have BK164 := n2_; have BK167 := n3_; have BK168 := n4_; have HB := n5_; clear n0_ n1_ n2_ n3_ n4_ n5_; clear hb ho43) | ((with_reducible refine gate_dst (N := 13) rfl ?_); refine box_event ?hg (N := 13) ?hd (cs := #[.int .i64 0, .int .i64 0, .int .i64 0, .int .i64 0, .int .i64 0, .int .i64 0, .int .i64 0, .int .i64 0]) (t := 70) ?hr ?_; (case hd => rfl); (case hg => rfl); (case hr => first | (go_simp; done) | (go_simp; rfl)); intro gA13 hg wA13 hbox hb; have hcA_0 : wA13.cell? ⟨gA13, 0, none⟩ = some (.int .i64 0) := (blk_cell hbox 0).trans rfl; have hcA_1 : wA13.cell? ⟨gA13, 1, none⟩ = some (.int .i64 0) := (blk_cell hbox 1).trans rfl; have hcA_2 : wA13.cell? ⟨gA13, 2, none⟩ = some (.int .i64 0) := (blk_cell hbox 2).trans rfl; have hcA_3 : wA13.cell? ⟨gA13, 3, none⟩ = some (.int .i64 0) := (blk_cell hbox 3).trans rfl; have hcA_4 : wA13.cell? ⟨gA13, 4, none⟩ = some (.int .i64 0) := (blk_cell hbox 4).trans rfl; have hcA_5 : wA13.cell? ⟨gA13, 5, none⟩ = some (.int .i64 0) := (blk_cell hbox 5).trans rfl; have hcA_6 : wA13.cell? ⟨gA13, 6, none⟩ = some (.int .i64 0) := (blk_cell hbox 6).trans rfl; have hcA_7 : wA13.cell? ⟨gA13, 7, none⟩ = some (.int .i64 0) := (blk_cell hbox 7).trans rfl; have hfA_0 := blk_frozen hbox 0; have hfA_1 := blk_frozen hbox 1; have hfA_2 := blk_frozen hbox 2; have hfA_3 := blk_frozen hbox 3; have hfA_4 := blk_frozen hbox 4; have hfA_5 := blk_frozen hbox 5; have hfA_6 := blk_frozen hbox 6; have hfA_7 := blk_frozen hbox 7; have Hg_ := Aside0.mk hg; have Hx_ := Aside0.mk hbox; have Hb_ := Aside0.mk hb; clear hg hbox hb; (with_reducible refine gate_store (t := 70) (p := 13) rfl ?_); refine store_event (t := 70) (p := 13) (v := ?vo_A13) (w1 := ((((((((wA13.setCell ⟨gA13, 0, none⟩ (.int .i64 0)).setCell ⟨gA13, 1, none⟩ (.int .i64 0)).setCell ⟨gA13, 2, none⟩ (.int .i64 (-1))).setCell ⟨gA13, 3, none⟩ (.int .i64 0)).setCell ⟨gA13, 4, none⟩ (.int .i64 (-1))).setCell ⟨gA13, 5, none⟩ (.int .i64 (-1))).setCell ⟨gA13, 6, none⟩ (.int .i64 0)).setCell ⟨gA13, 7, none⟩ (.int .i64 (-1)))) ?hg ?ho ?hn ?hr ?_; (case ho => rfl); (case hg => rfl); (case hn => rfl); (case hr => first | (go_simp; done) | (go_simp; rfl)); intro w44 hw; have hg := Hg_.out; have hbox := Hx_.out; have hb := Hb_.out; clear Hg_ Hx_ Hb_; replace hb := below_set (g := gA13) (j := 0) (v := .int .i64 0) hb (Nat.le_of_eq hg.symm); replace hb := below_set (g := gA13) (j := 1) (v := .int .i64 0) hb (Nat.le_of_eq hg.symm); replace hb := below_set (g := gA13) (j := 2) (v := .int .i64 (-1)) hb (Nat.le_of_eq hg.symm); replace hb := below_set (g := gA13) (j := 3) (v := .int .i64 0) hb (Nat.le_of_eq hg.symm); replace hb := below_set (g := gA13) (j := 4) (v := .int .i64 (-1)) hb (Nat.le_of_eq hg.symm); replace hb := below_set (g := gA13) (j := 5) (v := .int .i64 (-1)) hb (Nat.le_of_eq hg.symm); replace hb := below_set (g := gA13) (j := 6) (v := .int .i64 0) hb (Nat.le_of_eq hg.symm); replace hb := below_set (g := gA13) (j := 7) (v := .int .i64 (-1)) hb (Nat.le_of_eq hg.symm); rw [← hw] at hb; obtain ⟨v173, hv_, ho45⟩ := Kd.R_arr k43 (W := w44) (e := 70) (inner := #[.int .i64 0, .int .i64 0, .int .i64 (-1), .int .i64 0, .int .i64 (-1), .int .i64 (-1), .int .i64 0, .int .i64 (-1)]) (xs := ([(⟨0, 0⟩ : S43), (⟨(-1), 0⟩ : S43), (⟨(-1), (-1)⟩ : S43), (⟨0, (-1)⟩ : S43)] : List (S43))) (by rw [hw]; exact (blk_put (cs := #[.int .i64 0, .int .i64 0, .int .i64 (-1), .int .i64 0, .int .i64 (-1), .int .i64 (-1), .int .i64 0, .int .i64 0]) (blk_put (cs := #[.int .i64 0, .int .i64 0, .int .i64 (-1), .int .i64 0, .int .i64 (-1), .int .i64 (-1), .int .i64 0, .int .i64 0]) (blk_put (cs := #[.int .i64 0, .int .i64 0, .int .i64 (-1), .int .i64 0, .int .i64 (-1), .int .i64 0, .int .i64 0, .int .i64 0]) (blk_put (cs := #[.int .i64 0, .int .i64 0, .int .i64 (-1), .int .i64 0, .int .i64 0, .int .i64 0, .int .i64 0, .int .i64 0]) (blk_put (cs := #[.int .i64 0, .int .i64 0, .int .i64 (-1), .int .i64 0, .int .i64 0, .int .i64 0, .int .i64 0, .int .i64 0]) (blk_put (cs := #[.int .i64 0, .int .i64 0, .int .i64 0, .int .i64 0, .int .i64 0, .int .i64 0, .int .i64 0, .int .i64 0]) (blk_put (cs := #[.int .i64 0, .int .i64 0, .int .i64 0, .int .i64 0, .int .i64 0, .int .i64 0, .int .i64 0, .int .i64 0]) (blk_put (cs := #[.int .i64 0, .int .i64 0, .int .i64 0, .int .i64 0, .int .i64 0, .int .i64 0, .int .i64 0, .int .i64 0]) hbox 0 (.int .i64 0) rfl) 1 (.int .i64 0) rfl) 2 (.int .i64 (-1)) rfl) 3 (.int .i64 0) rfl) 4 (.int .i64 (-1)) rfl) 5 (.int .i64 (-1)) rfl) 6 (.int .i64 0) rfl) 7 (.int .i64 (-1)) rfl)) (Nat.le_of_eq hg.symm) (by simp) (Reps.c2 (show Kd.M k43 _ _ _ (⟨0, 0⟩ : S43) [.int .i64 0, .int .i64 0] from (k43_mkM _ _ _ (⟨0, 0⟩ : S43) )) (Reps.c2 (show Kd.M k43 _ _ _ (⟨(-1), 0⟩ : S43) [.int .i64 (-1), .int .i64 0] from (k43_mkM _ _ _ (⟨(-1), 0⟩ : S43) )) (Reps.c2 (show Kd.M k43 _ _ _ (⟨(-1), (-1)⟩ : S43) [.int .i64 (-1), .int .i64 (-1)] from (k43_mkM _ _ _ (⟨(-1), (-1)⟩ : S43) )) (Reps.c2 (show Kd.M k43 _ _ _ (⟨0, (-1)⟩ : S43) [.int .i64 0, .int .i64 (-1)] from (k43_mkM _ _ _ (⟨0, (-1)⟩ : S43) )) (Reps.none _ _))))); have HV13_ := Aside0.mk hv_; clear hv_ hw; clear hcA_0 hfA_0; clear hcA_1 hfA_1; clear hcA_2 hfA_2; clear hcA_3 hfA_3; clear hcA_4 hfA_4; clear hcA_5 hfA_5; clear hcA_6 hfA_6; clear hcA_7 hfA_7; clear hbox hg; (first | rw [← Ny172.out] at ho45 | (simp only [Int.reduceToNat] at ho45; rw [← Ny172.out] at ho45)); have n0_ := Aside0.mk (Kd.R_elder' (by (with_reducible repeat (first | apply Kd.R_alloc | apply Kd.R_drewN | apply Kd.R_drew)); exact HO171.out) (Kd.R_base ho45) hb); have n1_ := Aside0.mk (Kd.R_lower (Kd.R_newB (Kd.R_newB (Kd.R_newB (Kd.R_new' ho45 (Kd.R_lt (by (with_reducible repeat (first | apply Kd.R_alloc | apply Kd.R_drewN | apply Kd.R_drew)); exact HO171.out))) (g := gb164) (o := .cells #[.int .i64 a1] 3 (0, 0)) (by (with_reducible repeat (first | refine blk_drewN ?_ _ | refine blk_drew ?_ | refine blk_alloc ?_ _)); exact BK164.out)) (g := gb167) (o := .cells #[.int .i64 (Int.tmod x7_16 a0_0), .int .i64 (wrap64 (Int.tdiv x7_16 a0_0))] 43 (0, 0)) (by (with_reducible repeat (first | refine blk_drewN ?_ _ | refine blk_drew ?_ | refine blk_alloc ?_ _)); exact BK167.out)) (g := gb168) (o := .cells #[.int .i64 (Int.tmod x7_16 a0_0), .int .i64 (wrap64 (Int.tdiv x7_16 a0_0))] 43 (0, 0)) (by (with_reducible repeat (first | refine blk_drewN ?_ _ | refine blk_drew ?_ | refine blk_alloc ?_ _)); exact BK168.out)) (below_size (by repeat (first | (with_reducible first | exact HB.out | apply below_alloc | apply pw_below_drewN | apply below_drew1 | refine below_set ?_ GE163.out | refine below_set ?_ GE164.out | refine below_set ?_ GE167.out | refine below_set ?_ GE168.out) | exact HB.out)))); have n2_ := Aside0.mk (blk_below (g := gb163) (o := .cells #[.int .i64 a0_0, .int .i64 a0_1, .slice A0_2 l0_2.length c0_2] 26 (0, 0)) (by (with_reducible repeat (first | refine blk_drewN ?_ _ | refine blk_drew ?_ | refine blk_alloc ?_ _)); exact BK163.out) hb); have n3_ := Aside0.mk (blk_below (g := gb164) (o := .cells #[.int .i64 a1] 3 (0, 0)) (by (with_reducible repeat (first | refine blk_drewN ?_ _ | refine blk_drew ?_ | refine blk_alloc ?_ _)); exact BK164.out) hb); have n4_ := Aside0.mk (blk_below (g := gb167) (o := .cells #[.int .i64 (Int.tmod x7_16 a0_0), .int .i64 (wrap64 (Int.tdiv x7_16 a0_0))] 43 (0, 0)) (by (with_reducible repeat (first | refine blk_drewN ?_ _ | refine blk_drew ?_ | refine blk_alloc ?_ _)); exact BK167.out) hb); have n5_ := Aside0.mk (blk_below (g := gb168) (o := .cells #[.int .i64 (Int.tmod x7_16 a0_0), .int .i64 (wrap64 (Int.tdiv x7_16 a0_0))] 43 (0, 0)) (by (with_reducible repeat (first | refine blk_drewN ?_ _ | refine blk_drew ?_ | refine blk_alloc ?_ _)); exact BK168.out) hb); have n6_ := Aside0.mk (below_step (by repeat (first | (with_reducible first | exact HB.out | apply below_alloc | apply pw_below_drewN | apply below_drew1 | refine below_set ?_ GE163.out | refine below_set ?_ GE164.out | refine below_set ?_ GE167.out | refine below_set ?_ GE168.out) | exact HB.out)) hb); clear HO171; clear BK163; clear BK164; clear BK167; clear BK168; clear HB; have HO171 := n0_; have HO174 := n1_; have BK163 := n2_; have BK164 := n3_; have BK167 := n4_; have BK168 := n5_; have HB := n6_; clear n0_ n1_ n2_ n3_ n4_ n5_ n6_; clear hb ho45) | ((with_reducible refine gate_dst (N := 14) rfl ?_); refine box_event ?hg (N := 14) ?hd (cs := #[.int .i64 0, .int .i64 0, .int .i64 0, .int .i64 0, .int .i64 0, .int .i64 0, .int .i64 0, .int .i64 0]) (t := 70) ?hr ?_; (case hd => rfl); (case hg => rfl); (case hr => first | (go_simp; done) | (go_simp; rfl)); intro gA14 hg wA14 hbox hb; have hcA_0 : wA14.cell? ⟨gA14, 0, none⟩ = some (.int .i64 0) := (blk_cell hbox 0).trans rfl; have hcA_1 : wA14.cell? ⟨gA14, 1, none⟩ = some (.int .i64 0) := (blk_cell hbox 1).trans rfl; have hcA_2 : wA14.cell? ⟨gA14, 2, none⟩ = some (.int .i64 0) := (blk_cell hbox 2).trans rfl; have hcA_3 : wA14.cell? ⟨gA14, 3, none⟩ = some (.int .i64 0) := (blk_cell hbox 3).trans rfl; have hcA_4 : wA14.cell? ⟨gA14, 4, none⟩ = some (.int .i64 0) := (blk_cell hbox 4).trans rfl; have hcA_5 : wA14.cell? ⟨gA14, 5, none⟩ = some (.int .i64 0) := (blk_cell hbox 5).trans rfl; have hcA_6 : wA14.cell? ⟨gA14, 6, none⟩ = some (.int .i64 0) := (blk_cell hbox 6).trans rfl; have hcA_7 : wA14.cell? ⟨gA14, 7, none⟩ = some (.int .i64 0) := (blk_cell hbox 7).trans rfl; have hfA_0 := blk_frozen hbox 0; have hfA_1 := blk_frozen hbox 1; have hfA_2 := blk_frozen hbox 2; have hfA_3 := blk_frozen hbox 3; have hfA_4 := blk_frozen hbox 4; have hfA_5 := blk_frozen hbox 5; have hfA_6 := blk_frozen hbox 6; have hfA_7 := blk_frozen hbox 7; have Hg_ := Aside0.mk hg; have Hx_ := Aside0.mk hbox; have Hb_ := Aside0.mk hb; clear hg hbox hb; (with_reducible refine gate_store (t := 70) (p := 14) rfl ?_); refine store_event (t := 70) (p := 14) (v := ?vo_A14) (w1 := ((((((((wA14.setCell ⟨gA14, 0, none⟩ (.int .i64 0)).setCell ⟨gA14, 1, none⟩ (.int .i64 (-1))).setCell ⟨gA14, 2, none⟩ (.int .i64 0)).setCell ⟨gA14, 3, none⟩ (.int .i64 0)).setCell ⟨gA14, 4, none⟩ (.int .i64 (-1))).setCell ⟨gA14, 5, none⟩ (.int .i64 0)).setCell ⟨gA14, 6, none⟩ (.int .i64 (-1))).setCell ⟨gA14, 7, none⟩ (.int .i64 (-1)))) ?hg ?ho ?hn ?hr ?_; (case ho => rfl); (case hg => rfl); (case hn => rfl); (case hr => first | (go_simp; done) | (go_simp; rfl)); intro w46 hw; have hg := Hg_.out; have hbox := Hx_.out; have hb := Hb_.out; clear Hg_ Hx_ Hb_; replace hb := below_set (g := gA14) (j := 0) (v := .int .i64 0) hb (Nat.le_of_eq hg.symm); replace hb := below_set (g := gA14) (j := 1) (v := .int .i64 (-1)) hb (Nat.le_of_eq hg.symm); replace hb := below_set (g := gA14) (j := 2) (v := .int .i64 0) hb (Nat.le_of_eq hg.symm); replace hb := below_set (g := gA14) (j := 3) (v := .int .i64 0) hb (Nat.le_of_eq hg.symm); replace hb := below_set (g := gA14) (j := 4) (v := .int .i64 (-1)) hb (Nat.le_of_eq hg.symm); replace hb := below_set (g := gA14) (j := 5) (v := .int .i64 0) hb (Nat.le_of_eq hg.symm); replace hb := below_set (g := gA14) (j := 6) (v := .int .i64 (-1)) hb (Nat.le_of_eq hg.symm); replace hb := below_set (g := gA14) (j := 7) (v := .int .i64 (-1)) hb (Nat.le_of_eq hg.symm); rw [← hw] at hb; obtain ⟨v176, hv_, ho47⟩ := Kd.R_arr k43 (W := w46) (e := 70) (inner := #[.int .i64 0, .int .i64 (-1), .int .i64 0, .int .i64 0, .int .i64 (-1), .int .i64 0, .int .i64 (-1), .int .i64 (-1)]) (xs := ([(⟨0, (-1)⟩ : S43), (⟨0, 0⟩ : S43), (⟨(-1), 0⟩ : S43), (⟨(-1), (-1)⟩ : S43)] : List (S43))) (by rw [hw]; exact (blk_put (cs := #[.int .i64 0, .int .i64 (-1), .int .i64 0, .int .i64 0, .int .i64 (-1), .int .i64 0, .int .i64 (-1), .int .i64 0]) (blk_put (cs := #[.int .i64 0, .int .i64 (-1), .int .i64 0, .int .i64 0, .int .i64 (-1), .int .i64 0, .int .i64 0, .int .i64 0]) (blk_put (cs := #[.int .i64 0, .int .i64 (-1), .int .i64 0, .int .i64 0, .int .i64 (-1), .int .i64 0, .int .i64 0, .int .i64 0]) (blk_put (cs := #[.int .i64 0, .int .i64 (-1), .int .i64 0, .int .i64 0, .int .i64 0, .int .i64 0, .int .i64 0, .int .i64 0]) (blk_put (cs := #[.int .i64 0, .int .i64 (-1), .int .i64 0, .int .i64 0, .int .i64 0, .int .i64 0, .int .i64 0, .int .i64 0]) (blk_put (cs := #[.int .i64 0, .int .i64 (-1), .int .i64 0, .int .i64 0, .int .i64 0, .int .i64 0, .int .i64 0, .int .i64 0]) (blk_put (cs := #[.int .i64 0, .int .i64 0, .int .i64 0, .int .i64 0, .int .i64 0, .int .i64 0, .int .i64 0, .int .i64 0]) (blk_put (cs := #[.int .i64 0, .int .i64 0, .int .i64 0, .int .i64 0, .int .i64 0, .int .i64 0, .int .i64 0, .int .i64 0]) hbox 0 (.int .i64 0) rfl) 1 (.int .i64 (-1)) rfl) 2 (.int .i64 0) rfl) 3 (.int .i64 0) rfl) 4 (.int .i64 (-1)) rfl) 5 (.int .i64 0) rfl) 6 (.int .i64 (-1)) rfl) 7 (.int .i64 (-1)) rfl)) (Nat.le_of_eq hg.symm) (by simp) (Reps.c2 (show Kd.M k43 _ _ _ (⟨0, (-1)⟩ : S43) [.int .i64 0, .int .i64 (-1)] from (k43_mkM _ _ _ (⟨0, (-1)⟩ : S43) )) (Reps.c2 (show Kd.M k43 _ _ _ (⟨0, 0⟩ : S43) [.int .i64 0, .int .i64 0] from (k43_mkM _ _ _ (⟨0, 0⟩ : S43) )) (Reps.c2 (show Kd.M k43 _ _ _ (⟨(-1), 0⟩ : S43) [.int .i64 (-1), .int .i64 0] from (k43_mkM _ _ _ (⟨(-1), 0⟩ : S43) )) (Reps.c2 (show Kd.M k43 _ _ _ (⟨(-1), (-1)⟩ : S43) [.int .i64 (-1), .int .i64 (-1)] from (k43_mkM _ _ _ (⟨(-1), (-1)⟩ : S43) )) (Reps.none _ _))))); have HV14_ := Aside0.mk hv_; clear hv_ hw; clear hcA_0 hfA_0; clear hcA_1 hfA_1; clear hcA_2 hfA_2; clear hcA_3 hfA_3; clear hcA_4 hfA_4; clear hcA_5 hfA_5; clear hcA_6 hfA_6; clear hcA_7 hfA_7; clear hbox hg; (first | rw [← Ny175.out] at ho47 | (simp only [Int.reduceToNat] at ho47; rw [← Ny175.out] at ho47)); have n0_ := Aside0.mk (Kd.R_elder' (by (with_reducible repeat (first | apply Kd.R_alloc | apply Kd.R_drewN | apply Kd.R_drew)); exact HO171.out) (Kd.R_base ho47) hb); have n1_ := Aside0.mk (Kd.R_elder' (by (with_reducible repeat (first | apply Kd.R_alloc | apply Kd.R_drewN | apply Kd.R_drew)); exact HO174.out) (Kd.R_base ho47) hb); have n2_ := Aside0.mk (Kd.R_lower (Kd.R_newB (Kd.R_newB (Kd.R_newB (Kd.R_new' (Kd.R_new' ho47 (Kd.R_lt (by (with_reducible repeat (first | apply Kd.R_alloc | apply Kd.R_drewN | apply Kd.R_drew)); exact HO171.out))) (Kd.R_lt (by (with_reducible repeat (first | apply Kd.R_alloc | apply Kd.R_drewN | apply Kd.R_drew)); exact HO174.out))) (g := gb164) (o := .cells #[.int .i64 a1] 3 (0, 0)) (by (with_reducible repeat (first | refine blk_drewN ?_ _ | refine blk_drew ?_ | refine blk_alloc ?_ _)); exact BK164.out)) (g := gb167) (o := .cells #[.int .i64 (Int.tmod x7_16 a0_0), .int .i64 (wrap64 (Int.tdiv x7_16 a0_0))] 43 (0, 0)) (by (with_reducible repeat (first | refine blk_drewN ?_ _ | refine blk_drew ?_ | refine blk_alloc ?_ _)); exact BK167.out)) (g := gb168) (o := .cells #[.int .i64 (Int.tmod x7_16 a0_0), .int .i64 (wrap64 (Int.tdiv x7_16 a0_0))] 43 (0, 0)) (by (with_reducible repeat (first | refine blk_drewN ?_ _ | refine blk_drew ?_ | refine blk_alloc ?_ _)); exact BK168.out)) (below_size (by repeat (first | (with_reducible first | exact HB.out | apply below_alloc | apply pw_below_drewN | apply below_drew1 | refine below_set ?_ GE163.out | refine below_set ?_ GE164.out | refine below_set ?_ GE167.out | refine below_set ?_ GE168.out) | exact HB.out)))); have n3_ := Aside0.mk (blk_below (g := gb163) (o := .cells #[.int .i64 a0_0, .int .i64 a0_1, .slice A0_2 l0_2.length c0_2] 26 (0, 0)) (by (with_reducible repeat (first | refine blk_drewN ?_ _ | refine blk_drew ?_ | refine blk_alloc ?_ _)); exact BK163.out) hb); have n4_ := Aside0.mk (blk_below (g := gb164) (o := .cells #[.int .i64 a1] 3 (0, 0)) (by (with_reducible repeat (first | refine blk_drewN ?_ _ | refine blk_drew ?_ | refine blk_alloc ?_ _)); exact BK164.out) hb); have n5_ := Aside0.mk (blk_below (g := gb167) (o := .cells #[.int .i64 (Int.tmod x7_16 a0_0), .int .i64 (wrap64 (Int.tdiv x7_16 a0_0))] 43 (0, 0)) (by (with_reducible repeat (first | refine blk_drewN ?_ _ | refine blk_drew ?_ | refine blk_alloc ?_ _)); exact BK167.out) hb); have n6_ := Aside0.mk (blk_below (g := gb168) (o := .cells #[.int .i64 (Int.tmod x7_16 a0_0), .int .i64 (wrap64 (Int.tdiv x7_16 a0_0))] 43 (0, 0)) (by (with_reducible repeat (first | refine blk_drewN ?_ _ | refine blk_drew ?_ | refine blk_alloc ?_ _)); exact BK168.out) hb); have n7_ := Aside0.mk (below_step (by repeat (first | (with_reducible first | exact HB.out | apply below_alloc | apply pw_below_drewN | apply below_drew1 | refine below_set ?_ GE163.out | refine below_set ?_ GE164.out | refine below_set ?_ GE167.out | refine below_set ?_ GE168.out) | exact HB.out)) hb); clear HO171; clear HO174; clear BK163; clear BK164; clear BK167; clear BK168; clear HB; have HO171 := n0_; have HO174 := n1_; have HO177 := n2_; have BK163 := n3_; have BK164 := n4_; have BK167 := n5_; have BK168 := n6_; have HB := n7_; clear n0_ n1_ n2_ n3_ n4_ n5_ n6_ n7_; clear hb ho47; have hcz48_0 : w46.cell? ⟨gb167, 0, none⟩ = some (.int .i64 (Int.tmod x7_16 a0_0)) := (blk_cell BK167.out 0).trans rfl; have hcz48_1 : w46.cell? ⟨gb167, 1, none⟩ = some (.int .i64 (wrap64 (Int.tdiv x7_16 a0_0))) := (blk_cell BK167.out 1).trans rfl; have hfz48_0 := blk_frozen BK167.out 0; have hfz48_1 := blk_frozen BK167.out 1) | ((with_reducible refine gate_dst (N := 70) rfl ?_); refine Kd.R_lit k43 _ 43 ?hg (N := 70) ?hd (xs := ([(⟨Int.tmod x7_16 a0_0, wrap64 (Int.tdiv x7_16 a0_0)⟩ : S43)] : List (S43))) (inner := [.int .i64 (Int.tmod x7_16 a0_0), .int .i64 (wrap64 (Int.tdiv x7_16 a0_0))]) (ok := fun _ => True) (okp := fun _ => True) ?hr ?hp (fun _ hk => hk) trivial (Below.refl _ _) (Nat.le_refl _) (by simp) ?_; (case hd => rfl); (case hg => rfl); (case hr => first | (go_simp; done) | (go_simp; rfl)); (case hp => exact (Reps.c2 (show Kd.M k43 _ _ _ (⟨Int.tmod x7_16 a0_0, wrap64 (Int.tdiv x7_16 a0_0)⟩ : S43) [.int .i64 (Int.tmod x7_16 a0_0), .int .i64 (wrap64 (Int.tdiv x7_16 a0_0))] from (k43_mkM _ _ _ (⟨Int.tmod x7_16 a0_0, wrap64 (Int.tdiv x7_16 a0_0)⟩ : S43) )) (Reps.none _ _))); intro v179 w49 ho50 hb hg_ hnew_; clear hg_ hnew_; (first | rw [← Ny178.out] at ho50 | (simp only [Int.reduceToNat] at ho50; rw [← Ny178.out] at ho50)); have n0_ := Aside0.mk (Kd.R_elder' (by (with_reducible repeat (first | apply Kd.R_alloc | apply Kd.R_drewN | apply Kd.R_drew)); exact HO171.out) (Kd.R_base ho50) hb); have n1_ := Aside0.mk (Kd.R_elder' (by (with_reducible repeat (first | apply Kd.R_alloc | apply Kd.R_drewN | apply Kd.R_drew)); exact HO174.out) (Kd.R_base ho50) hb); have n2_ := Aside0.mk (Kd.R_elder' (by (with_reducible repeat (first | apply Kd.R_alloc | apply Kd.R_drewN | apply Kd.R_drew)); exact HO177.out) (Kd.R_base ho50) hb); have n3_ := Aside0.mk (Kd.R_lower (Kd.R_newB (Kd.R_newB (Kd.R_newB (Kd.R_new' (Kd.R_new' (Kd.R_new' ho50 (Kd.R_lt (by (with_reducible repeat (first | apply Kd.R_alloc | apply Kd.R_drewN | apply Kd.R_drew)); exact HO171.out))) (Kd.R_lt (by (with_reducible repeat (first | apply Kd.R_alloc | apply Kd.R_drewN | apply Kd.R_drew)); exact HO174.out))) (Kd.R_lt (by (with_reducible repeat (first | apply Kd.R_alloc | apply Kd.R_drewN | apply Kd.R_drew)); exact HO177.out))) (g := gb164) (o := .cells #[.int .i64 a1] 3 (0, 0)) (by (with_reducible repeat (first | refine blk_drewN ?_ _ | refine blk_drew ?_ | refine blk_alloc ?_ _)); exact BK164.out)) (g := gb167) (o := .cells #[.int .i64 (Int.tmod x7_16 a0_0), .int .i64 (wrap64 (Int.tdiv x7_16 a0_0))] 43 (0, 0)) (by (with_reducible repeat (first | refine blk_drewN ?_ _ | refine blk_drew ?_ | refine blk_alloc ?_ _)); exact BK167.out)) (g := gb168) (o := .cells #[.int .i64 (Int.tmod x7_16 a0_0), .int .i64 (wrap64 (Int.tdiv x7_16 a0_0))] 43 (0, 0)) (by (with_reducible repeat (first | refine blk_drewN ?_ _ | refine blk_drew ?_ | refine blk_alloc ?_ _)); exact BK168.out)) (below_size (by repeat (first | (with_reducible first | exact HB.out | apply below_alloc | apply pw_below_drewN | apply below_drew1 | refine below_set ?_ GE163.out | refine below_set ?_ GE164.out | refine below_set ?_ GE167.out | refine below_set ?_ GE168.out) | exact HB.out)))); have n4_ := Aside0.mk (blk_below (g := gb163) (o := .cells #[.int .i64 a0_0, .int .i64 a0_1, .slice A0_2 l0_2.length c0_2] 26 (0, 0)) (by (with_reducible repeat (first | refine blk_drewN ?_ _ | refine blk_drew ?_ | refine blk_alloc ?_ _)); exact BK163.out) hb); have n5_ := Aside0.mk (blk_below (g := gb164) (o := .cells #[.int .i64 a1] 3 (0, 0)) (by (with_reducible repeat (first | refine blk_drewN ?_ _ | refine blk_drew ?_ | refine blk_alloc ?_ _)); exact BK164.out) hb); have n6_ := Aside0.mk (blk_below (g := gb167) (o := .cells #[.int .i64 (Int.tmod x7_16 a0_0), .int .i64 (wrap64 (Int.tdiv x7_16 a0_0))] 43 (0, 0)) (by (with_reducible repeat (first | refine blk_drewN ?_ _ | refine blk_drew ?_ | refine blk_alloc ?_ _)); exact BK167.out) hb); have n7_ := Aside0.mk (blk_below (g := gb168) (o := .cells #[.int .i64 (Int.tmod x7_16 a0_0), .int .i64 (wrap64 (Int.tdiv x7_16 a0_0))] 43 (0, 0)) (by (with_reducible repeat (first | refine blk_drewN ?_ _ | refine blk_drew ?_ | refine blk_alloc ?_ _)); exact BK168.out) hb); have n8_ := Aside0.mk (below_step (by repeat (first | (with_reducible first | exact HB.out | apply below_alloc | apply pw_below_drewN | apply below_drew1 | refine below_set ?_ GE163.out | refine below_set ?_ GE164.out | refine below_set ?_ GE167.out | refine below_set ?_ GE168.out) | exact HB.out)) hb); clear HO171; clear HO174; clear HO177; clear BK163; clear BK164; clear BK167; clear BK168; clear HB; have HO171 := n0_; have HO174 := n1_; have HO177 := n2_; have HO180 := n3_; have BK163 := n4_; have BK164 := n5_; have BK167 := n6_; have BK168 := n7_; have HB := n8_; clear n0_ n1_ n2_ n3_ n4_ n5_ n6_ n7_ n8_; clear hb ho50))
                  go_loopg [15, 16] kj16 (fun kq v15 v16 w' => ∃ (x15_3 : Int) (x16_3 : List (S43)) (x168000_3 : Int) (x168001_3 : Int), v15 = .int .i64 x15_3 ∧ Aside0 (impl_Contour.l1 kq y169 y172 y175 x15_3 x16_3 a0_0 a0_1 l0_2 a1 0 x168000_3 x168001_3 (Int.tmod x7_16 a0_0) (wrap64 (Int.tdiv x7_16 a0_0)) = some (r1, r2)) ∧ Aside0 (kq ≤ kj16) ∧ Aside0 (Kd.R k43 70 w' w.heap.size (fun k_ => some k_ ≠ (v173 : Value).ownBlock ∧ some k_ ≠ (v176 : Value).ownBlock ∧ some k_ ≠ (v16 : Value).ownBlock ∧ k_ ≠ gb164 ∧ k_ ≠ gb167 ∧ k_ ≠ gb168) v170 y169) ∧ Aside0 (Kd.R k43 70 w' w.heap.size (fun k_ => some k_ ≠ (v170 : Value).ownBlock ∧ some k_ ≠ (v176 : Value).ownBlock ∧ some k_ ≠ (v16 : Value).ownBlock ∧ k_ ≠ gb164 ∧ k_ ≠ gb167 ∧ k_ ≠ gb168) v173 y172) ∧ Aside0 (Kd.R k43 70 w' w.heap.size (fun k_ => some k_ ≠ (v170 : Value).ownBlock ∧ some k_ ≠ (v173 : Value).ownBlock ∧ some k_ ≠ (v16 : Value).ownBlock ∧ k_ ≠ gb164 ∧ k_ ≠ gb167 ∧ k_ ≠ gb168) v176 y175) ∧ Aside0 (Kd.R k43 43 w' w.heap.size (fun k_ => some k_ ≠ (v170 : Value).ownBlock ∧ some k_ ≠ (v173 : Value).ownBlock ∧ some k_ ≠ (v176 : Value).ownBlock ∧ k_ ≠ gb164 ∧ k_ ≠ gb167 ∧ k_ ≠ gb168) v16 x16_3) ∧ Aside0 (w'.heap[gb163]? = some (.cells #[.int .i64 a0_0, .int .i64 a0_1, (.slice A0_2 l0_2.length c0_2)] 26 (0, 0))) ∧ Aside0 (w'.heap[gb164]? = some (.cells #[.int .i64 a1] 3 (0, 0))) ∧ Aside0 (w'.heap[gb167]? = some (.cells #[.int .i64 x168000_3, .int .i64 x168001_3] 43 (0, 0))) ∧ Aside0 (w'.heap[gb168]? = some (.cells #[.int .i64 (Int.tmod x7_16 a0_0), .int .i64 (wrap64 (Int.tdiv x7_16 a0_0))] 43 (0, 0))) ∧ Aside0 (Below w.heap.size w w'))
                  case atStart => exact ⟨(0), (y178), (Int.tmod x7_16 a0_0), (wrap64 (Int.tdiv x7_16 a0_0)), (by first | rfl | (simp; done) | (simp [*]; done)), H', ⟨Nat.le_refl _⟩, ⟨by (with_reducible repeat (first | apply Kd.R_alloc | apply Kd.R_drewN | apply Kd.R_drew)); exact Kd.R_mono HO171.out (fun _ hk => ⟨hk.1.1.2, ⟨hk.1.2, ⟨hk.2, ⟨hk.1.1.1.1.1.2, ⟨hk.1.1.1.1.2, hk.1.1.1.2⟩⟩⟩⟩⟩)⟩, ⟨by (with_reducible repeat (first | apply Kd.R_alloc | apply Kd.R_drewN | apply Kd.R_drew)); exact Kd.R_mono HO174.out (fun _ hk => ⟨hk.1.1.1.1.1.2, ⟨hk.1.2, ⟨hk.2, ⟨hk.1.1.1.1.2, ⟨hk.1.1.1.2, hk.1.1.2⟩⟩⟩⟩⟩)⟩, ⟨by (with_reducible repeat (first | apply Kd.R_alloc | apply Kd.R_drewN | apply Kd.R_drew)); exact Kd.R_mono HO177.out (fun _ hk => ⟨hk.1.1.1.1.1.2, ⟨hk.1.1.1.1.2, ⟨hk.2, ⟨hk.1.1.1.2, ⟨hk.1.1.2, hk.1.2⟩⟩⟩⟩⟩)⟩, ⟨by (with_reducible repeat (first | apply Kd.R_alloc | apply Kd.R_drewN | apply Kd.R_drew)); exact Kd.R_mono HO180.out (fun _ hk => ⟨hk.1.1.1.1.1.2, ⟨hk.1.1.1.1.2, ⟨hk.1.1.1.2, ⟨hk.1.1.2, ⟨hk.1.2, hk.2⟩⟩⟩⟩⟩)⟩, ⟨by (with_reducible repeat (first | refine blk_drewN ?_ _ | refine blk_drew ?_ | refine blk_alloc ?_ _)); exact BK163.out⟩, ⟨by (with_reducible repeat (first | refine blk_drewN ?_ _ | refine blk_drew ?_ | refine blk_alloc ?_ _)); exact BK164.out⟩, ⟨by (with_reducible repeat (first | refine blk_drewN ?_ _ | refine blk_drew ?_ | refine blk_alloc ?_ _)); exact BK167.out⟩, ⟨by (with_reducible repeat (first | refine blk_drewN ?_ _ | refine blk_drew ?_ | refine blk_alloc ?_ _)); exact BK168.out⟩, ⟨by repeat (first | (with_reducible first | exact HB.out | apply below_alloc | apply pw_below_drewN | apply below_drew1 | refine below_set ?_ GE163.out | refine below_set ?_ GE164.out | refine below_set ?_ GE167.out | refine below_set ?_ GE168.out) | exact HB.out)⟩⟩
                  case round =>
                    clear H'
                    try clear c1
                    try clear p1
                    try clear q1
                    try clear hx1
                    try clear c2
                    try clear p2
                    try clear c3
                    try clear c4
                    try clear p6
                    try clear c8
                    try clear c11
                    try clear c11b0
                    try clear c12
                    try clear c14
                    try clear c16
                    try clear p16
                    try clear q16
                    try clear hx16
                    try clear c17
                    try clear c18
                    try clear c20
                    try clear c20b0
                    try clear c21
                    try clear c21b0
                    try clear c22
                    try clear c22b0
                    try clear c23
                    try clear c23b0
                    try clear c24
                    try clear c26
                    try clear c28
                    try clear c28b0
                    try clear c29
                    try clear c29b0
                    try clear c29b1
                    try clear c34
                    try clear c35
                    try clear c38
                    try clear c39
                    try clear c40
                    try clear c44
                    try clear hcz13_0
                    try clear hcz13_1
                    try clear hcz15_0
                    try clear hcz15_1
                    try clear hcz19_0
                    try clear hcz19_1
                    try clear hcz19_2
                    try clear hcz25_0
                    try clear hcz25_1
                    try clear hcz27_0
                    try clear hcz27_1
                    try clear hcz36_0
                    try clear hcz36_1
                    try clear hcz41_0
                    try clear hcz41_1
                    try clear hcz48_0
                    try clear hcz48_1
                    try clear hcz9_0
                    try clear hcz9_1
                    try clear hcz9_2
                    try clear hfz13_0
                    try clear hfz13_1
                    try clear hfz15_0
                    try clear hfz15_1
                    try clear hfz19_0
                    try clear hfz19_1
                    try clear hfz19_2
                    try clear hfz25_0
                    try clear hfz25_1
                    try clear hfz27_0
                    try clear hfz27_1
                    try clear hfz36_0
                    try clear hfz36_1
                    try clear hfz41_0
                    try clear hfz41_1
                    try clear hfz48_0
                    try clear hfz48_1
                    try clear hfz9_0
                    try clear hfz9_1
                    try clear hfz9_2
                    try clear hx166_0
                    try clear p1
                    try clear p16
                    try clear p166
                    try clear p2
                    try clear p6
                    try clear q1
                    try clear q16
                    try clear q166
                    obtain ⟨x15_3, x16_3, x168000_3, x168001_3, rfl, HA, HK3, HO_12, HO_13, HO_14, HO_16, BK163, BK164, BK167, BK168, HB⟩ := hrel
                    cases gk with
                    | zero => exact absurd HA.out (by simp [impl_Contour.l1])
                    | succ k3 =>
                      have H := HA.out
                      clear HA
                      simp only [impl_Contour.l1] at H
                      by_cases c51 : 0 ≤ x15_3
                      · rw [if_pos c51] at H
                        have c51b0 : decide (0 ≤ x15_3) = true := decide_eq_true c51
                        clear c51
                        by_cases c52 : x15_3 < (y169.length : Int)
                        · rw [if_pos c52] at H
                          have c52b0 : decide (x15_3 < (y169.length : Int)) = true := decide_eq_true c52
                          clear c52
                          by_cases c53 : ((wrap64 (x168000_3 + ((rd_T43 y169 x15_3).f0))) == (Int.tmod x7_16 a0_0) && ((wrap64 (x168001_3 + ((rd_T43 y169 x15_3).f1))) == (wrap64 (Int.tdiv x7_16 a0_0)))) = true
                          · rw [if_pos c53] at H
                            have c53b0 : ((wrap64 (x168000_3 + ((rd_T43 y169 x15_3).f0))) == (Int.tmod x7_16 a0_0) && ((wrap64 (x168001_3 + ((rd_T43 y169 x15_3).f1))) == (wrap64 (Int.tdiv x7_16 a0_0)))) = true := c53
                            (try (have c53b1 : decide ((wrap64 (x168000_3 + ((rd_T43 y169 x15_3).f0))) = (Int.tmod x7_16 a0_0) && ((wrap64 (x168001_3 + ((rd_T43 y169 x15_3).f1))) == (wrap64 (Int.tdiv x7_16 a0_0)))) = true := by simpa using c53))
                            (try (have c53b2 : ((wrap64 (x168000_3 + ((rd_T43 y169 x15_3).f0))) == (Int.tmod x7_16 a0_0) && ((wrap64 (x168001_3 + ((rd_T43 y169 x15_3).f1))) == (wrap64 (Int.tdiv x7_16 a0_0)))) = true := by simpa using c53))
                            clear c53
                            simp only [Option.some.injEq, Prod.mk.injEq] at H
                            obtain ⟨rfl, rfl⟩ := H
                            try go_wp2
                            have n0_ := Aside0.mk (Kd.R_drew HO_12.out)
                            have n1_ := Aside0.mk (Kd.R_drew HO_13.out)
                            have n2_ := Aside0.mk (Kd.R_drew HO_14.out)
                            have n3_ := Aside0.mk (Kd.R_drew HO_16.out)
                            have n4_ := Aside0.mk (blk_drew BK163.out)
                            have n5_ := Aside0.mk (blk_drew BK164.out)
                            have n6_ := Aside0.mk (blk_drew BK167.out)
                            have n7_ := Aside0.mk (blk_drew BK168.out)
                            have n8_ := Aside0.mk (below_drew1 HB.out)
                            clear HO_12
                            clear HO_13
                            clear HO_14
                            clear HO_16
                            clear BK163
                            clear BK164
                            clear BK167
                            clear BK168
                            clear HB
                            have HO_12 := n0_
                            have HO_13 := n1_
                            have HO_14 := n2_
                            have HO_16 := n3_
                            have BK163 := n4_
                            have BK164 := n5_
                            have BK167 := n6_
                            have BK168 := n7_
                            have HB := n8_
                            clear n0_ n1_ n2_ n3_ n4_ n5_ n6_ n7_ n8_
                            obtain ⟨Ao55, co55, eo55⟩ := Kd.R_slice HO_12.out
                            (first | subst eo55 | (injection eo55 with f1_ f2_ f3_; have f4_ := f1_.symm; have f5_ := f3_.symm; clear f1_ f2_ f3_; subst f4_; subst f5_))
                            have p181 : 0 ≤ (x15_3 : Int) := of_decide_eq_true (by first | (with_reducible assumption) | assumption)
                            have q181 : x15_3 < (y169.length : Int) := of_decide_eq_true (by first | (with_reducible assumption) | assumption)
                            obtain ⟨ad181, e181, hx181_0, hx181_1⟩ := at_T43 (Kd.R_reads' HO_12.out).2.2 x15_3 p181 q181
                            cases e181
                            have hv_ := HV12_.out
                            injection hv_ with hva hvb hvc
                            have hva := Option.some.inj hva
                            have hvb : y169.length = 4 := hvb
                            have hxa181_0 := hx181_0; rw [hva] at hxa181_0; simp only [arr_add] at hxa181_0
                            have hxa181_1 := hx181_1; rw [hva] at hxa181_1; simp only [arr_add] at hxa181_1
                            have q8181_ : (x15_3) < (4 : Int) := by have := of_eq_true (eq_true q181); omega
                            replace q8181_ := eq_true q8181_
                            have HVa181 := Aside0.mk hva
                            clear hva hvb hvc
                            replace p181 := eq_true p181
                            replace q181 := eq_true q181
                            have p182 : 0 ≤ (x15_3 : Int) := of_decide_eq_true (by first | (with_reducible assumption) | assumption)
                            have q182 : x15_3 < (y169.length : Int) := of_decide_eq_true (by first | (with_reducible assumption) | assumption)
                            obtain ⟨ad182, e182, hx182_0, hx182_1⟩ := at_T43 (Kd.R_reads' HO_12.out).2.2 x15_3 p182 q182
                            obtain rfl : ad181 = ad182 := (by injection e182)
                            have hv_ := HV12_.out
                            injection hv_ with hva hvb hvc
                            have hva := Option.some.inj hva
                            have hvb : y169.length = 4 := hvb
                            have hxa182_0 := hx182_0; rw [hva] at hxa182_0; simp only [arr_add] at hxa182_0
                            have hxa182_1 := hx182_1; rw [hva] at hxa182_1; simp only [arr_add] at hxa182_1
                            have q8182_ : (x15_3) < (4 : Int) := by have := of_eq_true (eq_true q182); omega
                            replace q8182_ := eq_true q8182_
                            have HVa182 := Aside0.mk hva
                            clear hva hvb hvc
                            replace p182 := eq_true p182
                            replace q182 := eq_true q182
                            refine start_ (n := 16) (S := fun w' => w'.cell? ⟨gb167, 0, none⟩ = some (.int .i64 x168000_3) ∧ w'.cell? ⟨gb167, 1, none⟩ = some (.int .i64 x168001_3) ∧ w'.cell? ⟨gA12, ((x15_3).toNat * 2), none⟩ = some (.int .i64 ((rd_T43 y169 x15_3).f0)) ∧ w'.cell? ⟨gA12, ((x15_3).toNat * 2) + 1, none⟩ = some (.int .i64 ((rd_T43 y169 x15_3).f1)) ∧ w'.cell? ⟨gA12, ((x15_3).toNat * 2), none⟩ = some (.int .i64 ((rd_T43 y169 x15_3).f0)) ∧ w'.cell? ⟨gA12, ((x15_3).toNat * 2) + 1, none⟩ = some (.int .i64 ((rd_T43 y169 x15_3).f1))) (ds := [15]) #[false, false, false, false, false, false, false, false, false, false, false, false, false, false, false, false] (by kernel_rfl) rfl rfl ⟨(blk_cell BK167.out 0).trans rfl, (blk_cell BK167.out 1).trans rfl, hxa181_0, hxa181_1, hxa182_0, hxa182_1⟩ (fun hHeld => ?_); refine with_tabW impl_Contour.tab22 impl_Contour.bits22 (fun HT_ HW_ => ?_)
                            generalize wr.drew = w54 at HO_12 HO_13 HO_14 HO_16 BK163 BK164 BK167 BK168 HB hx181_0 hxa181_0 hx181_1 hxa181_1 hx182_0 hxa182_0 hx182_1 hxa182_1 hHeld ⊢
                            refine pure_ (i := 0) (N := some 71) (v := ?_) (a' := ?_) #[true, false, false, false, false, false, false, false, false, false, false, false, false, false, false, false] rfl rfl (any_of HT_.out (by kernel_rfl)) (fun _ _ _ h => h) (Or.inl ⟨by rfl, ?_⟩) ?_ ?_
                            rotate_left
                            · intro w'
                              go_simp
                              with_reducible rfl
                            rotate_left
                            · simp only [Act.put, List.setIfInBounds_toArray, List.set_cons_zero, List.set_cons_succ, i64_w, i32_w]
                              rfl
                            refine pure_ (i := 2) (N := some 73) (v := ?_) (a' := ?_) #[true, false, true, false, false, false, false, false, false, false, false, false, false, false, false, false] rfl rfl (any_of HT_.out (by kernel_rfl)) (fun _ _ _ h => h) (Or.inl ⟨by rfl, ?_⟩) ?_ ?_
                            rotate_left
                            · intro w'
                              go_simp
                              with_reducible rfl
                            rotate_left
                            · simp only [Act.put, List.setIfInBounds_toArray, List.set_cons_zero, List.set_cons_succ, i64_w, i32_w]
                              rfl
                            refine pure_ (i := 3) (N := some 74) (v := ?_) (a' := ?_) #[true, false, true, true, false, false, false, false, false, false, false, false, false, false, false, false] rfl rfl (any_of HT_.out (by kernel_rfl)) (fun _ _ _ h => h) (Or.inl ⟨by rfl, ?_⟩) ?_ ?_
                            rotate_left
                            · intro w'
                              go_simp
                              with_reducible rfl
                            rotate_left
                            · simp only [Act.put, List.setIfInBounds_toArray, List.set_cons_zero, List.set_cons_succ, i64_w, i32_w]
                              rfl
                            refine pure_ (i := 4) (N := some 75) (v := ?_) (a' := ?_) #[true, false, true, true, true, false, false, false, false, false, false, false, false, false, false, false] rfl rfl (any_of HT_.out (by kernel_rfl)) (fun _ _ _ h => h) (Or.inl ⟨by rfl, ?_⟩) ?_ ?_
                            rotate_left
                            · intro w'
                              go_simp
                              with_reducible rfl
                            rotate_left
                            · simp only [Act.put, List.setIfInBounds_toArray, List.set_cons_zero, List.set_cons_succ, i64_w, i32_w]
                              rfl
                            refine pure_ (i := 7) (N := some 78) (v := ?_) (a' := ?_) #[true, false, true, true, true, false, false, true, false, false, false, false, false, false, false, false] rfl rfl (any_of HT_.out (by kernel_rfl)) (fun _ _ _ h => h) (Or.inl ⟨by rfl, ?_⟩) ?_ ?_
                            rotate_left
                            · intro w'
                              go_simp
                              with_reducible rfl
                            rotate_left
                            · simp only [Act.put, List.setIfInBounds_toArray, List.set_cons_zero, List.set_cons_succ, i64_w, i32_w]
                              rfl
                            refine pure_ (i := 9) (N := some 80) (v := ?_) (a' := ?_) #[true, false, true, true, true, false, false, true, false, true, false, false, false, false, false, false] rfl rfl (any_of HT_.out (by kernel_rfl)) (fun _ _ _ h => h) (Or.inl ⟨by rfl, ?_⟩) ?_ ?_
                            rotate_left
                            · intro w'
                              go_simp
                              with_reducible rfl
                            rotate_left
                            · simp only [Act.put, List.setIfInBounds_toArray, List.set_cons_zero, List.set_cons_succ, i64_w, i32_w]
                              rfl
                            refine pure_ (i := 10) (N := some 81) (v := ?_) (a' := ?_) #[true, false, true, true, true, false, false, true, false, true, true, false, false, false, false, false] rfl rfl (any_of HT_.out (by kernel_rfl)) (fun _ _ _ h => h) (Or.inl ⟨by rfl, ?_⟩) ?_ ?_
                            rotate_left
                            · intro w'
                              go_simp
                              with_reducible rfl
                            rotate_left
                            · simp only [Act.put, List.setIfInBounds_toArray, List.set_cons_zero, List.set_cons_succ, i64_w, i32_w]
                              rfl
                            refine pure_ (i := 11) (N := some 82) (v := ?_) (a' := ?_) #[true, false, true, true, true, false, false, true, false, true, true, true, false, false, false, false] rfl rfl (any_of HT_.out (by kernel_rfl)) (fun _ _ _ h => h) (Or.inl ⟨by rfl, ?_⟩) ?_ ?_
                            rotate_left
                            · intro w'
                              go_simp
                              with_reducible rfl
                            rotate_left
                            · simp only [Act.put, List.setIfInBounds_toArray, List.set_cons_zero, List.set_cons_succ, i64_w, i32_w]
                              rfl
                            refine take_ (i := 1) (N := some 72) (v := ?_) (a' := ?_) #[true, true, true, true, true, false, false, true, false, true, true, true, false, false, false, false] rfl rfl (take_ofW HT_.out HW_.out (by kernel_rfl)) (fun _ _ _ h => h) (Or.inl ⟨by rfl, ?_⟩) hHeld ?_ ?_
                            rotate_left
                            · rintro w' ⟨s0, s1, s2, s3, s4, s5⟩
                              go_simp
                              with_reducible rfl
                            rotate_left
                            · simp only [Act.put, List.setIfInBounds_toArray, List.set_cons_zero, List.set_cons_succ, i64_w, i32_w]
                              rfl
                            refine take_ (i := 5) (N := some 76) (v := ?_) (a' := ?_) #[true, true, true, true, true, true, false, true, false, true, true, true, false, false, false, false] rfl rfl (take_ofW HT_.out HW_.out (by kernel_rfl)) (fun _ _ _ h => h) (Or.inl ⟨by rfl, ?_⟩) hHeld ?_ ?_
                            rotate_left
                            · rintro w' ⟨s0, s1, s2, s3, s4, s5⟩
                              go_simp
                              with_reducible rfl
                            rotate_left
                            · simp only [Act.put, List.setIfInBounds_toArray, List.set_cons_zero, List.set_cons_succ, i64_w, i32_w]
                              rfl
                            refine pure_ (i := 6) (N := some 77) (v := ?_) (a' := ?_) #[true, true, true, true, true, true, true, true, false, true, true, true, false, false, false, false] rfl rfl (any_of HT_.out (by kernel_rfl)) (fun _ _ _ h => h) (Or.inl ⟨by rfl, ?_⟩) ?_ ?_
                            rotate_left
                            · intro w'
                              go_simp
                              with_reducible rfl
                            rotate_left
                            · simp only [Act.put, List.setIfInBounds_toArray, List.set_cons_zero, List.set_cons_succ, i64_w, i32_w]
                              rfl
                            refine take_ (i := 8) (N := some 79) (v := ?_) (a' := ?_) #[true, true, true, true, true, true, true, true, true, true, true, true, false, false, false, false] rfl rfl (take_ofW HT_.out HW_.out (by kernel_rfl)) (fun _ _ _ h => h) (Or.inl ⟨by rfl, ?_⟩) hHeld ?_ ?_
                            rotate_left
                            · rintro w' ⟨s0, s1, s2, s3, s4, s5⟩
                              go_simp
                              with_reducible rfl
                            rotate_left
                            · simp only [Act.put, List.setIfInBounds_toArray, List.set_cons_zero, List.set_cons_succ, i64_w, i32_w]
                              rfl
                            refine take_ (i := 12) (N := some 83) (v := ?_) (a' := ?_) #[true, true, true, true, true, true, true, true, true, true, true, true, true, false, false, false] rfl rfl (take_ofW HT_.out HW_.out (by kernel_rfl)) (fun _ _ _ h => h) (Or.inl ⟨by rfl, ?_⟩) hHeld ?_ ?_
                            rotate_left
                            · rintro w' ⟨s0, s1, s2, s3, s4, s5⟩
                              go_simp
                              with_reducible rfl
                            rotate_left
                            · simp only [Act.put, List.setIfInBounds_toArray, List.set_cons_zero, List.set_cons_succ, i64_w, i32_w]
                              rfl
                            refine pure_ (i := 13) (N := some 84) (v := ?_) (a' := ?_) #[true, true, true, true, true, true, true, true, true, true, true, true, true, true, false, false] rfl rfl (any_of HT_.out (by kernel_rfl)) (fun _ _ _ h => h) (Or.inl ⟨by rfl, ?_⟩) ?_ ?_
                            rotate_left
                            · intro w'
                              go_simp
                              with_reducible rfl
                            rotate_left
                            · simp only [Act.put, List.setIfInBounds_toArray, List.set_cons_zero, List.set_cons_succ, i64_w, i32_w]
                              rfl
                            refine pure_ (i := 14) (N := some 85) (v := ?_) (a' := ?_) #[true, true, true, true, true, true, true, true, true, true, true, true, true, true, true, false] rfl rfl (any_of HT_.out (by kernel_rfl)) (fun _ _ _ h => h) (Or.inl ⟨by rfl, ?_⟩) ?_ ?_
                            rotate_left
                            · intro w'
                              go_simp
                              with_reducible rfl
                            rotate_left
                            · simp only [Act.put, List.setIfInBounds_toArray, List.set_cons_zero, List.set_cons_succ, i64_w, i32_w]
                              rfl
                            refine last_ (i := 15) (N := none) #[true, true, true, true, true, true, true, true, true, true, true, true, true, true, true, true] rfl rfl (one_of HT_.out (by kernel_rfl)) (by decide) (fun K hK => ?_)
                            have hs56 : w54.cell? ⟨gb167, 0, none⟩ = some (.int .i64 x168000_3) := (blk_cell BK167.out 0).trans rfl
                            have hfs56 := blk_frozen BK167.out 0
                            have hns56_0 := NB163_167.out
                            have hns56_1 := NB164_167.out
                            have hns56_3 := NB168_167.out
                            have hms56_0 := NB167_163.out
                            have hms56_1 := NB167_164.out
                            have hms56_3 := NB167_168.out
                            have hs57 : w54.cell? ⟨gb167, 1, none⟩ = some (.int .i64 x168001_3) := (blk_cell BK167.out 1).trans rfl
                            have hfs57 := blk_frozen BK167.out 1
                            have hns57_0 := NB163_167.out
                            have hns57_1 := NB164_167.out
                            have hns57_3 := NB168_167.out
                            have hms57_0 := NB167_163.out
                            have hms57_1 := NB167_164.out
                            have hms57_3 := NB167_168.out
                            refine skip_ (w1 := ?_) (by rfl) rfl ?_ ?_
                            rotate_left
                            · go_simp
                              rfl
                            refine hK.out _ _ ?_
                            clear hK K
                            refine done_ (done_of HT_.out (by kernel_rfl)) ?_
                            have hnb58 := NB167_163.out
                            have hnc58 := NB163_167.out
                            have hnb59 := NB167_164.out
                            have hnc59 := NB164_167.out
                            have hnb60 := NB167_168.out
                            have hnc60 := NB168_167.out
                            have hcz61_0 : w54.cell? ⟨gb167, 0, none⟩ = some (.int .i64 x168000_3) := (blk_cell BK167.out 0).trans rfl
                            have hcz61_1 : w54.cell? ⟨gb167, 1, none⟩ = some (.int .i64 x168001_3) := (blk_cell BK167.out 1).trans rfl
                            have hfz61_0 := blk_frozen BK167.out 0
                            have hfz61_1 := blk_frozen BK167.out 1
                            have hnb62 := NB168_163.out
                            have hnc62 := NB163_168.out
                            have hnb63 := NB168_164.out
                            have hnc63 := NB164_168.out
                            have hcz64_0 : w54.cell? ⟨gb168, 0, none⟩ = some (.int .i64 (Int.tmod x7_16 a0_0)) := (blk_cell BK168.out 0).trans rfl
                            have hcz64_1 : w54.cell? ⟨gb168, 1, none⟩ = some (.int .i64 (wrap64 (Int.tdiv x7_16 a0_0))) := (blk_cell BK168.out 1).trans rfl
                            have hfz64_0 := blk_frozen BK168.out 0
                            have hfz64_1 := blk_frozen BK168.out 1
                            have hnb65 := NB163_164.out
                            have hnc65 := NB164_163.out
                            have hcz66_0 : w54.cell? ⟨gb163, 0, none⟩ = some (.int .i64 a0_0) := (blk_cell BK163.out 0).trans rfl
                            have hcz66_1 : w54.cell? ⟨gb163, 1, none⟩ = some (.int .i64 a0_1) := (blk_cell BK163.out 1).trans rfl
                            have hcz66_2 : w54.cell? ⟨gb163, 2, none⟩ = some (.slice A0_2 l0_2.length c0_2) := (blk_cell BK163.out 2).trans rfl
                            have hfz66_0 := blk_frozen BK163.out 0
                            have hfz66_1 := blk_frozen BK163.out 1
                            have hfz66_2 := blk_frozen BK163.out 2
                            have hcz67_0 : w54.cell? ⟨gb164, 0, none⟩ = some (.int .i64 a1) := (blk_cell BK164.out 0).trans rfl
                            
                            have hfz67_0 := blk_frozen BK164.out 0
                            
                            try go_wp2
                            go_ret2
                            exact ⟨_, by first | rfl | (simp [errW_none, errW_some] <;> rfl) | (simp [*, errW_none, errW_some] <;> rfl), by (with_reducible repeat (first | apply Kd.R_alloc | apply Kd.R_drewN | apply Kd.R_drew)); exact Kd.R_mono (Kd.R_far (p := ⟨gb167, 1, none⟩) (Kd.R_far (p := ⟨gb167, 0, none⟩) (Kd.R_mono HO_16.out (fun k_ hk => (⟨hk, hk.2.2.2.2.1⟩ : _ ∧ k_ ≠ gb167))) (fun _ hk => hk.2) (.int .i64 (wrap64 (x168000_3 + ((rd_T43 y169 x15_3).f0))))) (fun _ hk => hk.2) (.int .i64 (wrap64 (x168001_3 + ((rd_T43 y169 x15_3).f1))))) (fun _ hk => trivial), by repeat (first | (with_reducible first | exact HB.out | apply below_alloc | apply pw_below_drewN | apply below_drew1 | refine below_set ?_ GE163.out | refine below_set ?_ GE164.out | refine below_set ?_ GE167.out | refine below_set ?_ GE168.out) | exact HB.out)⟩
                          · rw [if_neg c53] at H
                            have c53b0 : ((wrap64 (x168000_3 + ((rd_T43 y169 x15_3).f0))) == (Int.tmod x7_16 a0_0) && ((wrap64 (x168001_3 + ((rd_T43 y169 x15_3).f1))) == (wrap64 (Int.tdiv x7_16 a0_0)))) = false := by simpa using c53
                            (try (have c53b1 : decide ((wrap64 (x168000_3 + ((rd_T43 y169 x15_3).f0))) = (Int.tmod x7_16 a0_0) && ((wrap64 (x168001_3 + ((rd_T43 y169 x15_3).f1))) == (wrap64 (Int.tdiv x7_16 a0_0)))) = false := by simpa using c53))
                            (try (have c53b2 : ((wrap64 (x168000_3 + ((rd_T43 y169 x15_3).f0))) == (Int.tmod x7_16 a0_0) && ((wrap64 (x168001_3 + ((rd_T43 y169 x15_3).f1))) == (wrap64 (Int.tdiv x7_16 a0_0)))) = false := by simpa using c53))
                            (try (have c53b3 : ¬ ((wrap64 (x168000_3 + ((rd_T43 y169 x15_3).f0))) = (Int.tmod x7_16 a0_0) && ((wrap64 (x168001_3 + ((rd_T43 y169 x15_3).f1))) == (wrap64 (Int.tdiv x7_16 a0_0)))) := by simpa using c53))
                            clear c53
                            by_cases c68 : x15_3 < (y172.length : Int)
                            · rw [if_pos c68] at H
                              have c68b0 : decide (x15_3 < (y172.length : Int)) = true := decide_eq_true c68
                              clear c68
                              replace H := Option.bind_eq_some_iff.mp H
                              obtain ⟨t185, A690, H⟩ := H
                              replace H : (if x15_3 < (y175.length : Int) then ((impl_Contour_1.f (wrap64 ((wrap64 (x168000_3 + ((rd_T43 y169 x15_3).f0))) + ((rd_T43 y175 x15_3).f0))) (wrap64 ((wrap64 (x168001_3 + ((rd_T43 y169 x15_3).f1))) + ((rd_T43 y175 x15_3).f1))) a0_0 a0_1 l0_2 a1).bind fun t188 => (if t185 = true then (if t188 = true then (if x16_3.length < 8796093022208 then (impl_Contour.j4 k3 y169 y172 y175 (Int.tmod (wrap64 (x15_3 + 3)) 4) (x16_3 ++ [(⟨wrap64 (x168000_3 + ((rd_T43 y169 x15_3).f0)), wrap64 (x168001_3 + ((rd_T43 y169 x15_3).f1))⟩ : S43)]) a0_0 a0_1 l0_2 a1 0 (wrap64 (x168000_3 + ((rd_T43 y169 x15_3).f0))) (wrap64 (x168001_3 + ((rd_T43 y169 x15_3).f1))) (Int.tmod x7_16 a0_0) (wrap64 (Int.tdiv x7_16 a0_0))) else (none)) else (impl_Contour.j4 k3 y169 y172 y175 x15_3 x16_3 a0_0 a0_1 l0_2 a1 0 (wrap64 (x168000_3 + ((rd_T43 y169 x15_3).f0))) (wrap64 (x168001_3 + ((rd_T43 y169 x15_3).f1))) (Int.tmod x7_16 a0_0) (wrap64 (Int.tdiv x7_16 a0_0)))) else (if x16_3.length < 8796093022208 then (impl_Contour.j5 k3 y169 y172 y175 (Int.tmod (wrap64 (x15_3 + 1)) 4) (x16_3 ++ [(⟨wrap64 (x168000_3 + ((rd_T43 y169 x15_3).f0)), wrap64 (x168001_3 + ((rd_T43 y169 x15_3).f1))⟩ : S43)]) a0_0 a0_1 l0_2 a1 0 (wrap64 (x168000_3 + ((rd_T43 y169 x15_3).f0))) (wrap64 (x168001_3 + ((rd_T43 y169 x15_3).f1))) (Int.tmod x7_16 a0_0) (wrap64 (Int.tdiv x7_16 a0_0))) else (none)))) else (none)) = some (r1, r2) := H
                              have A69 := Aside0.mk A690
                              clear A690
                              by_cases c70 : x15_3 < (y175.length : Int)
                              · rw [if_pos c70] at H
                                have c70b0 : decide (x15_3 < (y175.length : Int)) = true := decide_eq_true c70
                                clear c70
                                replace H := Option.bind_eq_some_iff.mp H
                                obtain ⟨t188, A710, H⟩ := H
                                replace H : (if t185 = true then (if t188 = true then (if x16_3.length < 8796093022208 then (impl_Contour.j4 k3 y169 y172 y175 (Int.tmod (wrap64 (x15_3 + 3)) 4) (x16_3 ++ [(⟨wrap64 (x168000_3 + ((rd_T43 y169 x15_3).f0)), wrap64 (x168001_3 + ((rd_T43 y169 x15_3).f1))⟩ : S43)]) a0_0 a0_1 l0_2 a1 0 (wrap64 (x168000_3 + ((rd_T43 y169 x15_3).f0))) (wrap64 (x168001_3 + ((rd_T43 y169 x15_3).f1))) (Int.tmod x7_16 a0_0) (wrap64 (Int.tdiv x7_16 a0_0))) else (none)) else (impl_Contour.j4 k3 y169 y172 y175 x15_3 x16_3 a0_0 a0_1 l0_2 a1 0 (wrap64 (x168000_3 + ((rd_T43 y169 x15_3).f0))) (wrap64 (x168001_3 + ((rd_T43 y169 x15_3).f1))) (Int.tmod x7_16 a0_0) (wrap64 (Int.tdiv x7_16 a0_0)))) else (if x16_3.length < 8796093022208 then (impl_Contour.j5 k3 y169 y172 y175 (Int.tmod (wrap64 (x15_3 + 1)) 4) (x16_3 ++ [(⟨wrap64 (x168000_3 + ((rd_T43 y169 x15_3).f0)), wrap64 (x168001_3 + ((rd_T43 y169 x15_3).f1))⟩ : S43)]) a0_0 a0_1 l0_2 a1 0 (wrap64 (x168000_3 + ((rd_T43 y169 x15_3).f0))) (wrap64 (x168001_3 + ((rd_T43 y169 x15_3).f1))) (Int.tmod x7_16 a0_0) (wrap64 (Int.tdiv x7_16 a0_0))) else (none))) = some (r1, r2) := H
                                have A71 := Aside0.mk A710
                                clear A710
                                have HC72 := Aside0.mk H
                                clear H
                                try go_wp2
                                have n0_ := Aside0.mk (Kd.R_drew HO_12.out)
                                have n1_ := Aside0.mk (Kd.R_drew HO_13.out)
                                have n2_ := Aside0.mk (Kd.R_drew HO_14.out)
                                have n3_ := Aside0.mk (Kd.R_drew HO_16.out)
                                have n4_ := Aside0.mk (blk_drew BK163.out)
                                have n5_ := Aside0.mk (blk_drew BK164.out)
                                have n6_ := Aside0.mk (blk_drew BK167.out)
                                have n7_ := Aside0.mk (blk_drew BK168.out)
                                have n8_ := Aside0.mk (below_drew1 HB.out)
                                clear HO_12
                                clear HO_13
                                clear HO_14
                                clear HO_16
                                clear BK163
                                clear BK164
                                clear BK167
                                clear BK168
                                clear HB
                                have HO_12 := n0_
                                have HO_13 := n1_
                                have HO_14 := n2_
                                have HO_16 := n3_
                                have BK163 := n4_
                                have BK164 := n5_
                                have BK167 := n6_
                                have BK168 := n7_
                                have HB := n8_
                                clear n0_ n1_ n2_ n3_ n4_ n5_ n6_ n7_ n8_
                                obtain ⟨Ao74, co74, eo74⟩ := Kd.R_slice HO_12.out
                                (first | subst eo74 | (injection eo74 with f1_ f2_ f3_; have f4_ := f1_.symm; have f5_ := f3_.symm; clear f1_ f2_ f3_; subst f4_; subst f5_))
                                have p181 : 0 ≤ (x15_3 : Int) := of_decide_eq_true (by first | (with_reducible assumption) | assumption)
                                have q181 : x15_3 < (y169.length : Int) := of_decide_eq_true (by first | (with_reducible assumption) | assumption)
                                obtain ⟨ad181, e181, hx181_0, hx181_1⟩ := at_T43 (Kd.R_reads' HO_12.out).2.2 x15_3 p181 q181
                                cases e181
                                have hv_ := HV12_.out
                                injection hv_ with hva hvb hvc
                                have hva := Option.some.inj hva
                                have hvb : y169.length = 4 := hvb
                                have hxa181_0 := hx181_0; rw [hva] at hxa181_0; simp only [arr_add] at hxa181_0
                                have hxa181_1 := hx181_1; rw [hva] at hxa181_1; simp only [arr_add] at hxa181_1
                                have q8181_ : (x15_3) < (4 : Int) := by have := of_eq_true (eq_true q181); omega
                                replace q8181_ := eq_true q8181_
                                have HVa181 := Aside0.mk hva
                                clear hva hvb hvc
                                replace p181 := eq_true p181
                                replace q181 := eq_true q181
                                have p182 : 0 ≤ (x15_3 : Int) := of_decide_eq_true (by first | (with_reducible assumption) | assumption)
                                have q182 : x15_3 < (y169.length : Int) := of_decide_eq_true (by first | (with_reducible assumption) | assumption)
                                obtain ⟨ad182, e182, hx182_0, hx182_1⟩ := at_T43 (Kd.R_reads' HO_12.out).2.2 x15_3 p182 q182
                                obtain rfl : ad181 = ad182 := (by injection e182)
                                have hv_ := HV12_.out
                                injection hv_ with hva hvb hvc
                                have hva := Option.some.inj hva
                                have hvb : y169.length = 4 := hvb
                                have hxa182_0 := hx182_0; rw [hva] at hxa182_0; simp only [arr_add] at hxa182_0
                                have hxa182_1 := hx182_1; rw [hva] at hxa182_1; simp only [arr_add] at hxa182_1
                                have q8182_ : (x15_3) < (4 : Int) := by have := of_eq_true (eq_true q182); omega
                                replace q8182_ := eq_true q8182_
                                have HVa182 := Aside0.mk hva
                                clear hva hvb hvc
                                replace p182 := eq_true p182
                                replace q182 := eq_true q182
                                refine start_ (n := 16) (S := fun w' => w'.cell? ⟨gb167, 0, none⟩ = some (.int .i64 x168000_3) ∧ w'.cell? ⟨gb167, 1, none⟩ = some (.int .i64 x168001_3) ∧ w'.cell? ⟨gA12, ((x15_3).toNat * 2), none⟩ = some (.int .i64 ((rd_T43 y169 x15_3).f0)) ∧ w'.cell? ⟨gA12, ((x15_3).toNat * 2) + 1, none⟩ = some (.int .i64 ((rd_T43 y169 x15_3).f1)) ∧ w'.cell? ⟨gA12, ((x15_3).toNat * 2), none⟩ = some (.int .i64 ((rd_T43 y169 x15_3).f0)) ∧ w'.cell? ⟨gA12, ((x15_3).toNat * 2) + 1, none⟩ = some (.int .i64 ((rd_T43 y169 x15_3).f1))) (ds := [15]) #[false, false, false, false, false, false, false, false, false, false, false, false, false, false, false, false] (by kernel_rfl) rfl rfl ⟨(blk_cell BK167.out 0).trans rfl, (blk_cell BK167.out 1).trans rfl, hxa181_0, hxa181_1, hxa182_0, hxa182_1⟩ (fun hHeld => ?_); refine with_tabW impl_Contour.tab22 impl_Contour.bits22 (fun HT_ HW_ => ?_)
                                generalize wr.drew = w73 at HO_12 HO_13 HO_14 HO_16 BK163 BK164 BK167 BK168 HB hx181_0 hxa181_0 hx181_1 hxa181_1 hx182_0 hxa182_0 hx182_1 hxa182_1 hHeld ⊢
                                refine pure_ (i := 0) (N := some 71) (v := ?_) (a' := ?_) #[true, false, false, false, false, false, false, false, false, false, false, false, false, false, false, false] rfl rfl (any_of HT_.out (by kernel_rfl)) (fun _ _ _ h => h) (Or.inl ⟨by rfl, ?_⟩) ?_ ?_
                                rotate_left
                                · intro w'
                                  go_simp
                                  with_reducible rfl
                                rotate_left
                                · simp only [Act.put, List.setIfInBounds_toArray, List.set_cons_zero, List.set_cons_succ, i64_w, i32_w]
                                  rfl
                                refine pure_ (i := 2) (N := some 73) (v := ?_) (a' := ?_) #[true, false, true, false, false, false, false, false, false, false, false, false, false, false, false, false] rfl rfl (any_of HT_.out (by kernel_rfl)) (fun _ _ _ h => h) (Or.inl ⟨by rfl, ?_⟩) ?_ ?_
                                rotate_left
                                · intro w'
                                  go_simp
                                  with_reducible rfl
                                rotate_left
                                · simp only [Act.put, List.setIfInBounds_toArray, List.set_cons_zero, List.set_cons_succ, i64_w, i32_w]
                                  rfl
                                refine pure_ (i := 3) (N := some 74) (v := ?_) (a' := ?_) #[true, false, true, true, false, false, false, false, false, false, false, false, false, false, false, false] rfl rfl (any_of HT_.out (by kernel_rfl)) (fun _ _ _ h => h) (Or.inl ⟨by rfl, ?_⟩) ?_ ?_
                                rotate_left
                                · intro w'
                                  go_simp
                                  with_reducible rfl
                                rotate_left
                                · simp only [Act.put, List.setIfInBounds_toArray, List.set_cons_zero, List.set_cons_succ, i64_w, i32_w]
                                  rfl
                                refine pure_ (i := 4) (N := some 75) (v := ?_) (a' := ?_) #[true, false, true, true, true, false, false, false, false, false, false, false, false, false, false, false] rfl rfl (any_of HT_.out (by kernel_rfl)) (fun _ _ _ h => h) (Or.inl ⟨by rfl, ?_⟩) ?_ ?_
                                rotate_left
                                · intro w'
                                  go_simp
                                  with_reducible rfl
                                rotate_left
                                · simp only [Act.put, List.setIfInBounds_toArray, List.set_cons_zero, List.set_cons_succ, i64_w, i32_w]
                                  rfl
                                refine pure_ (i := 7) (N := some 78) (v := ?_) (a' := ?_) #[true, false, true, true, true, false, false, true, false, false, false, false, false, false, false, false] rfl rfl (any_of HT_.out (by kernel_rfl)) (fun _ _ _ h => h) (Or.inl ⟨by rfl, ?_⟩) ?_ ?_
                                rotate_left
                                · intro w'
                                  go_simp
                                  with_reducible rfl
                                rotate_left
                                · simp only [Act.put, List.setIfInBounds_toArray, List.set_cons_zero, List.set_cons_succ, i64_w, i32_w]
                                  rfl
                                refine pure_ (i := 9) (N := some 80) (v := ?_) (a' := ?_) #[true, false, true, true, true, false, false, true, false, true, false, false, false, false, false, false] rfl rfl (any_of HT_.out (by kernel_rfl)) (fun _ _ _ h => h) (Or.inl ⟨by rfl, ?_⟩) ?_ ?_
                                rotate_left
                                · intro w'
                                  go_simp
                                  with_reducible rfl
                                rotate_left
                                · simp only [Act.put, List.setIfInBounds_toArray, List.set_cons_zero, List.set_cons_succ, i64_w, i32_w]
                                  rfl
                                refine pure_ (i := 10) (N := some 81) (v := ?_) (a' := ?_) #[true, false, true, true, true, false, false, true, false, true, true, false, false, false, false, false] rfl rfl (any_of HT_.out (by kernel_rfl)) (fun _ _ _ h => h) (Or.inl ⟨by rfl, ?_⟩) ?_ ?_
                                rotate_left
                                · intro w'
                                  go_simp
                                  with_reducible rfl
                                rotate_left
                                · simp only [Act.put, List.setIfInBounds_toArray, List.set_cons_zero, List.set_cons_succ, i64_w, i32_w]
                                  rfl
                                refine pure_ (i := 11) (N := some 82) (v := ?_) (a' := ?_) #[true, false, true, true, true, false, false, true, false, true, true, true, false, false, false, false] rfl rfl (any_of HT_.out (by kernel_rfl)) (fun _ _ _ h => h) (Or.inl ⟨by rfl, ?_⟩) ?_ ?_
                                rotate_left
                                · intro w'
                                  go_simp
                                  with_reducible rfl
                                rotate_left
                                · simp only [Act.put, List.setIfInBounds_toArray, List.set_cons_zero, List.set_cons_succ, i64_w, i32_w]
                                  rfl
                                refine take_ (i := 1) (N := some 72) (v := ?_) (a' := ?_) #[true, true, true, true, true, false, false, true, false, true, true, true, false, false, false, false] rfl rfl (take_ofW HT_.out HW_.out (by kernel_rfl)) (fun _ _ _ h => h) (Or.inl ⟨by rfl, ?_⟩) hHeld ?_ ?_
                                rotate_left
                                · rintro w' ⟨s0, s1, s2, s3, s4, s5⟩
                                  go_simp
                                  with_reducible rfl
                                rotate_left
                                · simp only [Act.put, List.setIfInBounds_toArray, List.set_cons_zero, List.set_cons_succ, i64_w, i32_w]
                                  rfl
                                refine take_ (i := 5) (N := some 76) (v := ?_) (a' := ?_) #[true, true, true, true, true, true, false, true, false, true, true, true, false, false, false, false] rfl rfl (take_ofW HT_.out HW_.out (by kernel_rfl)) (fun _ _ _ h => h) (Or.inl ⟨by rfl, ?_⟩) hHeld ?_ ?_
                                rotate_left
                                · rintro w' ⟨s0, s1, s2, s3, s4, s5⟩
                                  go_simp
                                  with_reducible rfl
                                rotate_left
                                · simp only [Act.put, List.setIfInBounds_toArray, List.set_cons_zero, List.set_cons_succ, i64_w, i32_w]
                                  rfl
                                refine pure_ (i := 6) (N := some 77) (v := ?_) (a' := ?_) #[true, true, true, true, true, true, true, true, false, true, true, true, false, false, false, false] rfl rfl (any_of HT_.out (by kernel_rfl)) (fun _ _ _ h => h) (Or.inl ⟨by rfl, ?_⟩) ?_ ?_
                                rotate_left
                                · intro w'
                                  go_simp
                                  with_reducible rfl
                                rotate_left
                                · simp only [Act.put, List.setIfInBounds_toArray, List.set_cons_zero, List.set_cons_succ, i64_w, i32_w]
                                  rfl
                                refine take_ (i := 8) (N := some 79) (v := ?_) (a' := ?_) #[true, true, true, true, true, true, true, true, true, true, true, true, false, false, false, false] rfl rfl (take_ofW HT_.out HW_.out (by kernel_rfl)) (fun _ _ _ h => h) (Or.inl ⟨by rfl, ?_⟩) hHeld ?_ ?_
                                rotate_left
                                · rintro w' ⟨s0, s1, s2, s3, s4, s5⟩
                                  go_simp
                                  with_reducible rfl
                                rotate_left
                                · simp only [Act.put, List.setIfInBounds_toArray, List.set_cons_zero, List.set_cons_succ, i64_w, i32_w]
                                  rfl
                                refine take_ (i := 12) (N := some 83) (v := ?_) (a' := ?_) #[true, true, true, true, true, true, true, true, true, true, true, true, true, false, false, false] rfl rfl (take_ofW HT_.out HW_.out (by kernel_rfl)) (fun _ _ _ h => h) (Or.inl ⟨by rfl, ?_⟩) hHeld ?_ ?_
                                rotate_left
                                · rintro w' ⟨s0, s1, s2, s3, s4, s5⟩
                                  go_simp
                                  with_reducible rfl
                                rotate_left
                                · simp only [Act.put, List.setIfInBounds_toArray, List.set_cons_zero, List.set_cons_succ, i64_w, i32_w]
                                  rfl
                                refine pure_ (i := 13) (N := some 84) (v := ?_) (a' := ?_) #[true, true, true, true, true, true, true, true, true, true, true, true, true, true, false, false] rfl rfl (any_of HT_.out (by kernel_rfl)) (fun _ _ _ h => h) (Or.inl ⟨by rfl, ?_⟩) ?_ ?_
                                rotate_left
                                · intro w'
                                  go_simp
                                  with_reducible rfl
                                rotate_left
                                · simp only [Act.put, List.setIfInBounds_toArray, List.set_cons_zero, List.set_cons_succ, i64_w, i32_w]
                                  rfl
                                refine pure_ (i := 14) (N := some 85) (v := ?_) (a' := ?_) #[true, true, true, true, true, true, true, true, true, true, true, true, true, true, true, false] rfl rfl (any_of HT_.out (by kernel_rfl)) (fun _ _ _ h => h) (Or.inl ⟨by rfl, ?_⟩) ?_ ?_
                                rotate_left
                                · intro w'
                                  go_simp
                                  with_reducible rfl
                                rotate_left
                                · simp only [Act.put, List.setIfInBounds_toArray, List.set_cons_zero, List.set_cons_succ, i64_w, i32_w]
                                  rfl
                                refine last_ (i := 15) (N := none) #[true, true, true, true, true, true, true, true, true, true, true, true, true, true, true, true] rfl rfl (one_of HT_.out (by kernel_rfl)) (by decide) (fun K hK => ?_)
                                have hs75 : w73.cell? ⟨gb167, 0, none⟩ = some (.int .i64 x168000_3) := (blk_cell BK167.out 0).trans rfl
                                have hfs75 := blk_frozen BK167.out 0
                                have hns75_0 := NB163_167.out
                                have hns75_1 := NB164_167.out
                                have hns75_3 := NB168_167.out
                                have hms75_0 := NB167_163.out
                                have hms75_1 := NB167_164.out
                                have hms75_3 := NB167_168.out
                                have hs76 : w73.cell? ⟨gb167, 1, none⟩ = some (.int .i64 x168001_3) := (blk_cell BK167.out 1).trans rfl
                                have hfs76 := blk_frozen BK167.out 1
                                have hns76_0 := NB163_167.out
                                have hns76_1 := NB164_167.out
                                have hns76_3 := NB168_167.out
                                have hms76_0 := NB167_163.out
                                have hms76_1 := NB167_164.out
                                have hms76_3 := NB167_168.out
                                refine skip_ (w1 := ?_) (by rfl) rfl ?_ ?_
                                rotate_left
                                · go_simp
                                  rfl
                                refine hK.out _ _ ?_
                                clear hK K
                                refine done_ (done_of HT_.out (by kernel_rfl)) ?_
                                have hnb77 := NB167_163.out
                                have hnc77 := NB163_167.out
                                have hnb78 := NB167_164.out
                                have hnc78 := NB164_167.out
                                have hnb79 := NB167_168.out
                                have hnc79 := NB168_167.out
                                have hcz80_0 : w73.cell? ⟨gb167, 0, none⟩ = some (.int .i64 x168000_3) := (blk_cell BK167.out 0).trans rfl
                                have hcz80_1 : w73.cell? ⟨gb167, 1, none⟩ = some (.int .i64 x168001_3) := (blk_cell BK167.out 1).trans rfl
                                have hfz80_0 := blk_frozen BK167.out 0
                                have hfz80_1 := blk_frozen BK167.out 1
                                have hnb81 := NB168_163.out
                                have hnc81 := NB163_168.out
                                have hnb82 := NB168_164.out
                                have hnc82 := NB164_168.out
                                have hcz83_0 : w73.cell? ⟨gb168, 0, none⟩ = some (.int .i64 (Int.tmod x7_16 a0_0)) := (blk_cell BK168.out 0).trans rfl
                                have hcz83_1 : w73.cell? ⟨gb168, 1, none⟩ = some (.int .i64 (wrap64 (Int.tdiv x7_16 a0_0))) := (blk_cell BK168.out 1).trans rfl
                                have hfz83_0 := blk_frozen BK168.out 0
                                have hfz83_1 := blk_frozen BK168.out 1
                                have hnb84 := NB163_164.out
                                have hnc84 := NB164_163.out
                                have hcz85_0 : w73.cell? ⟨gb163, 0, none⟩ = some (.int .i64 a0_0) := (blk_cell BK163.out 0).trans rfl
                                have hcz85_1 : w73.cell? ⟨gb163, 1, none⟩ = some (.int .i64 a0_1) := (blk_cell BK163.out 1).trans rfl
                                have hcz85_2 : w73.cell? ⟨gb163, 2, none⟩ = some (.slice A0_2 l0_2.length c0_2) := (blk_cell BK163.out 2).trans rfl
                                have hfz85_0 := blk_frozen BK163.out 0
                                have hfz85_1 := blk_frozen BK163.out 1
                                have hfz85_2 := blk_frozen BK163.out 2
                                have hcz86_0 : w73.cell? ⟨gb164, 0, none⟩ = some (.int .i64 a1) := (blk_cell BK164.out 0).trans rfl
                                
                                have hfz86_0 := blk_frozen BK164.out 0
                                
                                try go_wp2
                                have n0_ : Aside0 (Kd.R k43 70 ((w73.setCell ⟨gb167, 0, none⟩ (.int .i64 (wrap64 (x168000_3 + ((rd_T43 y169 x15_3).f0))))).setCell ⟨gb167, 1, none⟩ (.int .i64 (wrap64 (x168001_3 + ((rd_T43 y169 x15_3).f1))))) w.heap.size (fun k_ => some k_ ≠ (v173 : Value).ownBlock ∧ some k_ ≠ (v176 : Value).ownBlock ∧ some k_ ≠ (u16 : Value).ownBlock ∧ k_ ≠ gb164 ∧ k_ ≠ gb167 ∧ k_ ≠ gb168) (.slice (some ad181) y169.length co74) y169) := ⟨by (with_reducible repeat (first | apply Kd.R_alloc | apply Kd.R_drewN | apply Kd.R_drew)); exact Kd.R_mono (Kd.R_far (p := ⟨gb167, 1, none⟩) (Kd.R_far (p := ⟨gb167, 0, none⟩) (Kd.R_mono HO_12.out (fun k_ hk => (⟨hk, hk.2.2.2.2.1⟩ : _ ∧ k_ ≠ gb167))) (fun _ hk => hk.2) (.int .i64 (wrap64 (x168000_3 + ((rd_T43 y169 x15_3).f0))))) (fun _ hk => hk.2) (.int .i64 (wrap64 (x168001_3 + ((rd_T43 y169 x15_3).f1))))) (fun _ hk => ⟨hk.1.1, ⟨hk.1.2.1, ⟨hk.1.2.2.1, ⟨hk.1.2.2.2.1, ⟨hk.1.2.2.2.2.1, hk.1.2.2.2.2.2⟩⟩⟩⟩⟩)⟩
                                have n1_ : Aside0 (Kd.R k43 70 ((w73.setCell ⟨gb167, 0, none⟩ (.int .i64 (wrap64 (x168000_3 + ((rd_T43 y169 x15_3).f0))))).setCell ⟨gb167, 1, none⟩ (.int .i64 (wrap64 (x168001_3 + ((rd_T43 y169 x15_3).f1))))) w.heap.size (fun k_ => some k_ ≠ (.slice (some ad181) y169.length co74 : Value).ownBlock ∧ some k_ ≠ (v176 : Value).ownBlock ∧ some k_ ≠ (u16 : Value).ownBlock ∧ k_ ≠ gb164 ∧ k_ ≠ gb167 ∧ k_ ≠ gb168) v173 y172) := ⟨by (with_reducible repeat (first | apply Kd.R_alloc | apply Kd.R_drewN | apply Kd.R_drew)); exact Kd.R_mono (Kd.R_far (p := ⟨gb167, 1, none⟩) (Kd.R_far (p := ⟨gb167, 0, none⟩) (Kd.R_mono HO_13.out (fun k_ hk => (⟨hk, hk.2.2.2.2.1⟩ : _ ∧ k_ ≠ gb167))) (fun _ hk => hk.2) (.int .i64 (wrap64 (x168000_3 + ((rd_T43 y169 x15_3).f0))))) (fun _ hk => hk.2) (.int .i64 (wrap64 (x168001_3 + ((rd_T43 y169 x15_3).f1))))) (fun _ hk => ⟨hk.1.1, ⟨hk.1.2.1, ⟨hk.1.2.2.1, ⟨hk.1.2.2.2.1, ⟨hk.1.2.2.2.2.1, hk.1.2.2.2.2.2⟩⟩⟩⟩⟩)⟩
                                have n2_ : Aside0 (Kd.R k43 70 ((w73.setCell ⟨gb167, 0, none⟩ (.int .i64 (wrap64 (x168000_3 + ((rd_T43 y169 x15_3).f0))))).setCell ⟨gb167, 1, none⟩ (.int .i64 (wrap64 (x168001_3 + ((rd_T43 y169 x15_3).f1))))) w.heap.size (fun k_ => some k_ ≠ (.slice (some ad181) y169.length co74 : Value).ownBlock ∧ some k_ ≠ (v173 : Value).ownBlock ∧ some k_ ≠ (u16 : Value).ownBlock ∧ k_ ≠ gb164 ∧ k_ ≠ gb167 ∧ k_ ≠ gb168) v176 y175) := ⟨by (with_reducible repeat (first | apply Kd.R_alloc | apply Kd.R_drewN | apply Kd.R_drew)); exact Kd.R_mono (Kd.R_far (p := ⟨gb167, 1, none⟩) (Kd.R_far (p := ⟨gb167, 0, none⟩) (Kd.R_mono HO_14.out (fun k_ hk => (⟨hk, hk.2.2.2.2.1⟩ : _ ∧ k_ ≠ gb167))) (fun _ hk => hk.2) (.int .i64 (wrap64 (x168000_3 + ((rd_T43 y169 x15_3).f0))))) (fun _ hk => hk.2) (.int .i64 (wrap64 (x168001_3 + ((rd_T43 y169 x15_3).f1))))) (fun _ hk => ⟨hk.1.1, ⟨hk.1.2.1, ⟨hk.1.2.2.1, ⟨hk.1.2.2.2.1, ⟨hk.1.2.2.2.2.1, hk.1.2.2.2.2.2⟩⟩⟩⟩⟩)⟩
                                have n3_ : Aside0 (Kd.R k43 43 ((w73.setCell ⟨gb167, 0, none⟩ (.int .i64 (wrap64 (x168000_3 + ((rd_T43 y169 x15_3).f0))))).setCell ⟨gb167, 1, none⟩ (.int .i64 (wrap64 (x168001_3 + ((rd_T43 y169 x15_3).f1))))) w.heap.size (fun k_ => some k_ ≠ (.slice (some ad181) y169.length co74 : Value).ownBlock ∧ some k_ ≠ (v173 : Value).ownBlock ∧ some k_ ≠ (v176 : Value).ownBlock ∧ k_ ≠ gb164 ∧ k_ ≠ gb167 ∧ k_ ≠ gb168) u16 x16_3) := ⟨by (with_reducible repeat (first | apply Kd.R_alloc | apply Kd.R_drewN | apply Kd.R_drew)); exact Kd.R_mono (Kd.R_far (p := ⟨gb167, 1, none⟩) (Kd.R_far (p := ⟨gb167, 0, none⟩) (Kd.R_mono HO_16.out (fun k_ hk => (⟨hk, hk.2.2.2.2.1⟩ : _ ∧ k_ ≠ gb167))) (fun _ hk => hk.2) (.int .i64 (wrap64 (x168000_3 + ((rd_T43 y169 x15_3).f0))))) (fun _ hk => hk.2) (.int .i64 (wrap64 (x168001_3 + ((rd_T43 y169 x15_3).f1))))) (fun _ hk => ⟨hk.1.1, ⟨hk.1.2.1, ⟨hk.1.2.2.1, ⟨hk.1.2.2.2.1, ⟨hk.1.2.2.2.2.1, hk.1.2.2.2.2.2⟩⟩⟩⟩⟩)⟩
                                have n4_ : Aside0 (((w73.setCell ⟨gb167, 0, none⟩ (.int .i64 (wrap64 (x168000_3 + ((rd_T43 y169 x15_3).f0))))).setCell ⟨gb167, 1, none⟩ (.int .i64 (wrap64 (x168001_3 + ((rd_T43 y169 x15_3).f1))))).heap[gb163]? = some (.cells #[.int .i64 a0_0, .int .i64 a0_1, .slice A0_2 l0_2.length c0_2] 26 (0, 0))) := ⟨by (with_reducible repeat (first | refine blk_drewN ?_ _ | refine blk_drew ?_ | refine blk_alloc ?_ _)); refine blk_far ?_ NB163_167.out _; (with_reducible repeat (first | refine blk_drewN ?_ _ | refine blk_drew ?_ | refine blk_alloc ?_ _)); refine blk_far ?_ NB163_167.out _; (with_reducible repeat (first | refine blk_drewN ?_ _ | refine blk_drew ?_ | refine blk_alloc ?_ _)); exact BK163.out⟩
                                have n5_ : Aside0 (((w73.setCell ⟨gb167, 0, none⟩ (.int .i64 (wrap64 (x168000_3 + ((rd_T43 y169 x15_3).f0))))).setCell ⟨gb167, 1, none⟩ (.int .i64 (wrap64 (x168001_3 + ((rd_T43 y169 x15_3).f1))))).heap[gb164]? = some (.cells #[.int .i64 a1] 3 (0, 0))) := ⟨by (with_reducible repeat (first | refine blk_drewN ?_ _ | refine blk_drew ?_ | refine blk_alloc ?_ _)); refine blk_far ?_ NB164_167.out _; (with_reducible repeat (first | refine blk_drewN ?_ _ | refine blk_drew ?_ | refine blk_alloc ?_ _)); refine blk_far ?_ NB164_167.out _; (with_reducible repeat (first | refine blk_drewN ?_ _ | refine blk_drew ?_ | refine blk_alloc ?_ _)); exact BK164.out⟩
                                have n6_ : Aside0 (((w73.setCell ⟨gb167, 0, none⟩ (.int .i64 (wrap64 (x168000_3 + ((rd_T43 y169 x15_3).f0))))).setCell ⟨gb167, 1, none⟩ (.int .i64 (wrap64 (x168001_3 + ((rd_T43 y169 x15_3).f1))))).heap[gb167]? = some (.cells #[.int .i64 (wrap64 (x168000_3 + ((rd_T43 y169 x15_3).f0))), .int .i64 (wrap64 (x168001_3 + ((rd_T43 y169 x15_3).f1)))] 43 (0, 0))) := ⟨by (with_reducible repeat (first | refine blk_drewN ?_ _ | refine blk_drew ?_ | refine blk_alloc ?_ _)); refine blk_put (cs := #[.int .i64 (wrap64 (x168000_3 + ((rd_T43 y169 x15_3).f0))), .int .i64 x168001_3]) ?_ 1 _ rfl; (with_reducible repeat (first | refine blk_drewN ?_ _ | refine blk_drew ?_ | refine blk_alloc ?_ _)); refine blk_put (cs := #[.int .i64 x168000_3, .int .i64 x168001_3]) ?_ 0 _ rfl; (with_reducible repeat (first | refine blk_drewN ?_ _ | refine blk_drew ?_ | refine blk_alloc ?_ _)); exact BK167.out⟩
                                have n7_ : Aside0 (((w73.setCell ⟨gb167, 0, none⟩ (.int .i64 (wrap64 (x168000_3 + ((rd_T43 y169 x15_3).f0))))).setCell ⟨gb167, 1, none⟩ (.int .i64 (wrap64 (x168001_3 + ((rd_T43 y169 x15_3).f1))))).heap[gb168]? = some (.cells #[.int .i64 (Int.tmod x7_16 a0_0), .int .i64 (wrap64 (Int.tdiv x7_16 a0_0))] 43 (0, 0))) := ⟨by (with_reducible repeat (first | refine blk_drewN ?_ _ | refine blk_drew ?_ | refine blk_alloc ?_ _)); refine blk_far ?_ NB168_167.out _; (with_reducible repeat (first | refine blk_drewN ?_ _ | refine blk_drew ?_ | refine blk_alloc ?_ _)); refine blk_far ?_ NB168_167.out _; (with_reducible repeat (first | refine blk_drewN ?_ _ | refine blk_drew ?_ | refine blk_alloc ?_ _)); exact BK168.out⟩
                                have n8_ : Aside0 (Below w.heap.size w ((w73.setCell ⟨gb167, 0, none⟩ (.int .i64 (wrap64 (x168000_3 + ((rd_T43 y169 x15_3).f0))))).setCell ⟨gb167, 1, none⟩ (.int .i64 (wrap64 (x168001_3 + ((rd_T43 y169 x15_3).f1)))))) := ⟨by repeat (first | (with_reducible first | exact HB.out | apply below_alloc | apply pw_below_drewN | apply below_drew1 | refine below_set ?_ GE163.out | refine below_set ?_ GE164.out | refine below_set ?_ GE167.out | refine below_set ?_ GE168.out) | exact HB.out)⟩
                                (try clear HO_12)
                                (try clear HO_13)
                                (try clear HO_14)
                                (try clear HO_16)
                                (try clear BK163)
                                (try clear BK164)
                                (try clear BK167)
                                (try clear BK168)
                                (try clear HB)
                                generalize ((w73.setCell ⟨gb167, 0, none⟩ (.int .i64 (wrap64 (x168000_3 + ((rd_T43 y169 x15_3).f0))))).setCell ⟨gb167, 1, none⟩ (.int .i64 (wrap64 (x168001_3 + ((rd_T43 y169 x15_3).f1))))) = w87 at n0_ n1_ n2_ n3_ n4_ n5_ n6_ n7_ n8_ ⊢
                                have HO_12 := n0_
                                have HO_13 := n1_
                                have HO_14 := n2_
                                have HO_16 := n3_
                                have BK163 := n4_
                                have BK164 := n5_
                                have BK167 := n6_
                                have BK168 := n7_
                                have HB := n8_
                                clear n0_ n1_ n2_ n3_ n4_ n5_ n6_ n7_ n8_
                                have n0_ := Aside0.mk (Kd.R_drew HO_12.out)
                                have n1_ := Aside0.mk (Kd.R_drew HO_13.out)
                                have n2_ := Aside0.mk (Kd.R_drew HO_14.out)
                                have n3_ := Aside0.mk (Kd.R_drew HO_16.out)
                                have n4_ := Aside0.mk (blk_drew BK163.out)
                                have n5_ := Aside0.mk (blk_drew BK164.out)
                                have n6_ := Aside0.mk (blk_drew BK167.out)
                                have n7_ := Aside0.mk (blk_drew BK168.out)
                                have n8_ := Aside0.mk (below_drew1 HB.out)
                                clear HO_12
                                clear HO_13
                                clear HO_14
                                clear HO_16
                                clear BK163
                                clear BK164
                                clear BK167
                                clear BK168
                                clear HB
                                have HO_12 := n0_
                                have HO_13 := n1_
                                have HO_14 := n2_
                                have HO_16 := n3_
                                have BK163 := n4_
                                have BK164 := n5_
                                have BK167 := n6_
                                have BK168 := n7_
                                have HB := n8_
                                clear n0_ n1_ n2_ n3_ n4_ n5_ n6_ n7_ n8_
                                obtain ⟨Ao89, co89, eo89⟩ := Kd.R_slice HO_13.out
                                (first | subst eo89 | (injection eo89 with f1_ f2_ f3_; have f4_ := f1_.symm; have f5_ := f3_.symm; clear f1_ f2_ f3_; subst f4_; subst f5_))
                                have p183 : 0 ≤ (x15_3 : Int) := of_decide_eq_true (by first | (with_reducible assumption) | assumption)
                                have q183 : x15_3 < (y172.length : Int) := of_decide_eq_true (by first | (with_reducible assumption) | assumption)
                                obtain ⟨ad183, e183, hx183_0, hx183_1⟩ := at_T43 (Kd.R_reads' HO_13.out).2.2 x15_3 p183 q183
                                cases e183
                                have hv_ := HV13_.out
                                injection hv_ with hva hvb hvc
                                have hva := Option.some.inj hva
                                have hvb : y172.length = 4 := hvb
                                have hxa183_0 := hx183_0; rw [hva] at hxa183_0; simp only [arr_add] at hxa183_0
                                have hxa183_1 := hx183_1; rw [hva] at hxa183_1; simp only [arr_add] at hxa183_1
                                have q8183_ : (x15_3) < (4 : Int) := by have := of_eq_true (eq_true q183); omega
                                replace q8183_ := eq_true q8183_
                                have HVa183 := Aside0.mk hva
                                clear hva hvb hvc
                                replace p183 := eq_true p183
                                replace q183 := eq_true q183
                                have p184 : 0 ≤ (x15_3 : Int) := of_decide_eq_true (by first | (with_reducible assumption) | assumption)
                                have q184 : x15_3 < (y172.length : Int) := of_decide_eq_true (by first | (with_reducible assumption) | assumption)
                                obtain ⟨ad184, e184, hx184_0, hx184_1⟩ := at_T43 (Kd.R_reads' HO_13.out).2.2 x15_3 p184 q184
                                obtain rfl : ad183 = ad184 := (by injection e184)
                                have hv_ := HV13_.out
                                injection hv_ with hva hvb hvc
                                have hva := Option.some.inj hva
                                have hvb : y172.length = 4 := hvb
                                have hxa184_0 := hx184_0; rw [hva] at hxa184_0; simp only [arr_add] at hxa184_0
                                have hxa184_1 := hx184_1; rw [hva] at hxa184_1; simp only [arr_add] at hxa184_1
                                have q8184_ : (x15_3) < (4 : Int) := by have := of_eq_true (eq_true q184); omega
                                replace q8184_ := eq_true q8184_
                                have HVa184 := Aside0.mk hva
                                clear hva hvb hvc
                                replace p184 := eq_true p184
                                replace q184 := eq_true q184
                                refine start_ (n := 17) (S := fun w' => w'.cell? ⟨gb167, 0, none⟩ = some (.int .i64 (wrap64 (x168000_3 + ((rd_T43 y169 x15_3).f0)))) ∧ w'.cell? ⟨gb167, 1, none⟩ = some (.int .i64 (wrap64 (x168001_3 + ((rd_T43 y169 x15_3).f1)))) ∧ w'.cell? ⟨gA13, ((x15_3).toNat * 2), none⟩ = some (.int .i64 ((rd_T43 y172 x15_3).f0)) ∧ w'.cell? ⟨gA13, ((x15_3).toNat * 2) + 1, none⟩ = some (.int .i64 ((rd_T43 y172 x15_3).f1)) ∧ w'.cell? ⟨gA13, ((x15_3).toNat * 2), none⟩ = some (.int .i64 ((rd_T43 y172 x15_3).f0)) ∧ w'.cell? ⟨gA13, ((x15_3).toNat * 2) + 1, none⟩ = some (.int .i64 ((rd_T43 y172 x15_3).f1))) (ds := []) #[false, false, false, false, false, false, false, false, false, false, false, false, false, false, false, false, false] (by kernel_rfl) rfl rfl ⟨(blk_cell BK167.out 0).trans rfl, (blk_cell BK167.out 1).trans rfl, hxa183_0, hxa183_1, hxa184_0, hxa184_1⟩ (fun hHeld => ?_); refine with_tabW impl_Contour.tab25 impl_Contour.bits25 (fun HT_ HW_ => ?_)
                                generalize w87.drew = w88 at HO_12 HO_13 HO_14 HO_16 BK163 BK164 BK167 BK168 HB hx183_0 hxa183_0 hx183_1 hxa183_1 hx184_0 hxa184_0 hx184_1 hxa184_1 hHeld ⊢
                                refine pure_ (i := 0) (N := some 90) (v := ?_) (a' := ?_) #[true, false, false, false, false, false, false, false, false, false, false, false, false, false, false, false, false] rfl rfl (any_of HT_.out (by kernel_rfl)) (fun _ _ _ h => h) (Or.inl ⟨by rfl, ?_⟩) ?_ ?_
                                rotate_left
                                · intro w'
                                  go_simp
                                  with_reducible rfl
                                rotate_left
                                · simp only [Act.put, List.setIfInBounds_toArray, List.set_cons_zero, List.set_cons_succ, i64_w, i32_w]
                                  rfl
                                refine pure_ (i := 1) (N := some 91) (v := ?_) (a' := ?_) #[true, true, false, false, false, false, false, false, false, false, false, false, false, false, false, false, false] rfl rfl (any_of HT_.out (by kernel_rfl)) (fun _ _ _ h => h) (Or.inl ⟨by rfl, ?_⟩) ?_ ?_
                                rotate_left
                                · intro w'
                                  go_simp
                                  with_reducible rfl
                                rotate_left
                                · simp only [Act.put, List.setIfInBounds_toArray, List.set_cons_zero, List.set_cons_succ, i64_w, i32_w]
                                  rfl
                                refine pure_ (i := 3) (N := some 93) (v := ?_) (a' := ?_) #[true, true, false, true, false, false, false, false, false, false, false, false, false, false, false, false, false] rfl rfl (any_of HT_.out (by kernel_rfl)) (fun _ _ _ h => h) (Or.inl ⟨by rfl, ?_⟩) ?_ ?_
                                rotate_left
                                · intro w'
                                  go_simp
                                  with_reducible rfl
                                rotate_left
                                · simp only [Act.put, List.setIfInBounds_toArray, List.set_cons_zero, List.set_cons_succ, i64_w, i32_w]
                                  rfl
                                refine pure_ (i := 4) (N := some 94) (v := ?_) (a' := ?_) #[true, true, false, true, true, false, false, false, false, false, false, false, false, false, false, false, false] rfl rfl (any_of HT_.out (by kernel_rfl)) (fun _ _ _ h => h) (Or.inl ⟨by rfl, ?_⟩) ?_ ?_
                                rotate_left
                                · intro w'
                                  go_simp
                                  with_reducible rfl
                                rotate_left
                                · simp only [Act.put, List.setIfInBounds_toArray, List.set_cons_zero, List.set_cons_succ, i64_w, i32_w]
                                  rfl
                                refine pure_ (i := 5) (N := some 95) (v := ?_) (a' := ?_) #[true, true, false, true, true, true, false, false, false, false, false, false, false, false, false, false, false] rfl rfl (any_of HT_.out (by kernel_rfl)) (fun _ _ _ h => h) (Or.inl ⟨by rfl, ?_⟩) ?_ ?_
                                rotate_left
                                · intro w'
                                  go_simp
                                  with_reducible rfl
                                rotate_left
                                · simp only [Act.put, List.setIfInBounds_toArray, List.set_cons_zero, List.set_cons_succ, i64_w, i32_w]
                                  rfl
                                refine pure_ (i := 8) (N := some 98) (v := ?_) (a' := ?_) #[true, true, false, true, true, true, false, false, true, false, false, false, false, false, false, false, false] rfl rfl (any_of HT_.out (by kernel_rfl)) (fun _ _ _ h => h) (Or.inl ⟨by rfl, ?_⟩) ?_ ?_
                                rotate_left
                                · intro w'
                                  go_simp
                                  with_reducible rfl
                                rotate_left
                                · simp only [Act.put, List.setIfInBounds_toArray, List.set_cons_zero, List.set_cons_succ, i64_w, i32_w]
                                  rfl
                                refine pure_ (i := 10) (N := some 100) (v := ?_) (a' := ?_) #[true, true, false, true, true, true, false, false, true, false, true, false, false, false, false, false, false] rfl rfl (any_of HT_.out (by kernel_rfl)) (fun _ _ _ h => h) (Or.inl ⟨by rfl, ?_⟩) ?_ ?_
                                rotate_left
                                · intro w'
                                  go_simp
                                  with_reducible rfl
                                rotate_left
                                · simp only [Act.put, List.setIfInBounds_toArray, List.set_cons_zero, List.set_cons_succ, i64_w, i32_w]
                                  rfl
                                refine pure_ (i := 11) (N := some 101) (v := ?_) (a' := ?_) #[true, true, false, true, true, true, false, false, true, false, true, true, false, false, false, false, false] rfl rfl (any_of HT_.out (by kernel_rfl)) (fun _ _ _ h => h) (Or.inl ⟨by rfl, ?_⟩) ?_ ?_
                                rotate_left
                                · intro w'
                                  go_simp
                                  with_reducible rfl
                                rotate_left
                                · simp only [Act.put, List.setIfInBounds_toArray, List.set_cons_zero, List.set_cons_succ, i64_w, i32_w]
                                  rfl
                                refine pure_ (i := 12) (N := some 102) (v := ?_) (a' := ?_) #[true, true, false, true, true, true, false, false, true, false, true, true, true, false, false, false, false] rfl rfl (any_of HT_.out (by kernel_rfl)) (fun _ _ _ h => h) (Or.inl ⟨by rfl, ?_⟩) ?_ ?_
                                rotate_left
                                · intro w'
                                  go_simp
                                  with_reducible rfl
                                rotate_left
                                · simp only [Act.put, List.setIfInBounds_toArray, List.set_cons_zero, List.set_cons_succ, i64_w, i32_w]
                                  rfl
                                refine take_ (i := 2) (N := some 92) (v := ?_) (a' := ?_) #[true, true, true, true, true, true, false, false, true, false, true, true, true, false, false, false, false] rfl rfl (take_ofW HT_.out HW_.out (by kernel_rfl)) (fun _ _ _ h => h) (Or.inl ⟨by rfl, ?_⟩) hHeld ?_ ?_
                                rotate_left
                                · rintro w' ⟨s0, s1, s2, s3, s4, s5⟩
                                  go_simp
                                  with_reducible rfl
                                rotate_left
                                · simp only [Act.put, List.setIfInBounds_toArray, List.set_cons_zero, List.set_cons_succ, i64_w, i32_w]
                                  rfl
                                refine take_ (i := 6) (N := some 96) (v := ?_) (a' := ?_) #[true, true, true, true, true, true, true, false, true, false, true, true, true, false, false, false, false] rfl rfl (take_ofW HT_.out HW_.out (by kernel_rfl)) (fun _ _ _ h => h) (Or.inl ⟨by rfl, ?_⟩) hHeld ?_ ?_
                                rotate_left
                                · rintro w' ⟨s0, s1, s2, s3, s4, s5⟩
                                  go_simp
                                  with_reducible rfl
                                rotate_left
                                · simp only [Act.put, List.setIfInBounds_toArray, List.set_cons_zero, List.set_cons_succ, i64_w, i32_w]
                                  rfl
                                refine pure_ (i := 7) (N := some 97) (v := ?_) (a' := ?_) #[true, true, true, true, true, true, true, true, true, false, true, true, true, false, false, false, false] rfl rfl (any_of HT_.out (by kernel_rfl)) (fun _ _ _ h => h) (Or.inl ⟨by rfl, ?_⟩) ?_ ?_
                                rotate_left
                                · intro w'
                                  go_simp
                                  with_reducible rfl
                                rotate_left
                                · simp only [Act.put, List.setIfInBounds_toArray, List.set_cons_zero, List.set_cons_succ, i64_w, i32_w]
                                  rfl
                                refine take_ (i := 9) (N := some 99) (v := ?_) (a' := ?_) #[true, true, true, true, true, true, true, true, true, true, true, true, true, false, false, false, false] rfl rfl (take_ofW HT_.out HW_.out (by kernel_rfl)) (fun _ _ _ h => h) (Or.inl ⟨by rfl, ?_⟩) hHeld ?_ ?_
                                rotate_left
                                · rintro w' ⟨s0, s1, s2, s3, s4, s5⟩
                                  go_simp
                                  with_reducible rfl
                                rotate_left
                                · simp only [Act.put, List.setIfInBounds_toArray, List.set_cons_zero, List.set_cons_succ, i64_w, i32_w]
                                  rfl
                                refine take_ (i := 13) (N := some 103) (v := ?_) (a' := ?_) #[true, true, true, true, true, true, true, true, true, true, true, true, true, true, false, false, false] rfl rfl (take_ofW HT_.out HW_.out (by kernel_rfl)) (fun _ _ _ h => h) (Or.inl ⟨by rfl, ?_⟩) hHeld ?_ ?_
                                rotate_left
                                · rintro w' ⟨s0, s1, s2, s3, s4, s5⟩
                                  go_simp
                                  with_reducible rfl
                                rotate_left
                                · simp only [Act.put, List.setIfInBounds_toArray, List.set_cons_zero, List.set_cons_succ, i64_w, i32_w]
                                  rfl
                                refine pure_ (i := 14) (N := some 104) (v := ?_) (a' := ?_) #[true, true, true, true, true, true, true, true, true, true, true, true, true, true, true, false, false] rfl rfl (any_of HT_.out (by kernel_rfl)) (fun _ _ _ h => h) (Or.inl ⟨by rfl, ?_⟩) ?_ ?_
                                rotate_left
                                · intro w'
                                  go_simp
                                  with_reducible rfl
                                rotate_left
                                · simp only [Act.put, List.setIfInBounds_toArray, List.set_cons_zero, List.set_cons_succ, i64_w, i32_w]
                                  rfl
                                refine one_ (i := 15) (N := some 105) #[true, true, true, true, true, true, true, true, true, true, true, true, true, true, true, true, false] rfl rfl (one_of HT_.out (by kernel_rfl)) (by decide) (fun K hK => ?_)
                                refine goesD_ (cap := #[.pointer (some ⟨gb163, 0, none⟩), .pointer (some ⟨gb164, 0, none⟩)]) Try.func53 (by kernel_rfl) rfl #[.int .i64 (wrap64 ((wrap64 (x168000_3 + ((rd_T43 y169 x15_3).f0))) + ((rd_T43 y172 x15_3).f0))), .int .i64 (wrap64 ((wrap64 (x168001_3 + ((rd_T43 y169 x15_3).f1))) + ((rd_T43 y172 x15_3).f1))), .pointer (some ⟨gb163, 0, none⟩), .pointer (some ⟨gb164, 0, none⟩)] (by rfl) rfl rfl (by rfl) (by first | (go_simp; done) | rfl) ?_
                                with_reducible refine (impl_Contour_1.calls (wrap64 ((wrap64 (x168000_3 + ((rd_T43 y169 x15_3).f0))) + ((rd_T43 y172 x15_3).f0))) (wrap64 ((wrap64 (x168001_3 + ((rd_T43 y169 x15_3).f1))) + ((rd_T43 y172 x15_3).f1))) a0_0 a0_1 A0_2 c0_2 l0_2 a1 t185 _ ?side1 ?side2 gb163 gb164 ?sideP ?sideZ A69.out).mono ?_
                                (case sideP => (with_reducible repeat (first | refine blk_drewN ?_ _ | refine blk_drew ?_ | refine blk_alloc ?_ _)); exact BK163.out)
                                (case sideZ => (with_reducible repeat (first | refine blk_drewN ?_ _ | refine blk_drew ?_ | refine blk_alloc ?_ _)); exact BK164.out)
                                (case side1 => repeat (first | exact (Kd.C_below HR0_2.out HB.out) | (with_reducible refine Kd.C_alloc ?_ _) | (with_reducible refine Kd.C_drewN ?_ _) | (with_reducible refine Kd.C_drew ?_)))
                                (case side2 => exact HC0_2.out)
                                rintro e w90 ⟨rfl, hb⟩
                                have HS2_ := (hb.cell (World.block_lt_of_cell? _ _ (hHeld.2.2.1))).trans (hHeld.2.2.1)
                                have HS3_ := (hb.cell (World.block_lt_of_cell? _ _ (hHeld.2.2.2.1))).trans (hHeld.2.2.2.1)
                                have HS4_ := (hb.cell (World.block_lt_of_cell? _ _ (hHeld.2.2.2.2.1))).trans (hHeld.2.2.2.2.1)
                                have HS5_ := (hb.cell (World.block_lt_of_cell? _ _ (hHeld.2.2.2.2.2))).trans (hHeld.2.2.2.2.2)
                                refine ⟨_, rfl, ?_⟩
                                have n0_ := Aside0.mk (Kd.R_below (by (with_reducible repeat (first | apply Kd.R_alloc | apply Kd.R_drewN | apply Kd.R_drew)); exact HO_12.out) hb)
                                have n1_ := Aside0.mk (Kd.R_below (by (with_reducible repeat (first | apply Kd.R_alloc | apply Kd.R_drewN | apply Kd.R_drew)); exact HO_13.out) hb)
                                have n2_ := Aside0.mk (Kd.R_below (by (with_reducible repeat (first | apply Kd.R_alloc | apply Kd.R_drewN | apply Kd.R_drew)); exact HO_14.out) hb)
                                have n3_ := Aside0.mk (Kd.R_below (by (with_reducible repeat (first | apply Kd.R_alloc | apply Kd.R_drewN | apply Kd.R_drew)); exact HO_16.out) hb)
                                have n4_ := Aside0.mk (blk_below (g := gb163) (o := .cells #[.int .i64 a0_0, .int .i64 a0_1, .slice A0_2 l0_2.length c0_2] 26 (0, 0)) (by (with_reducible repeat (first | refine blk_drewN ?_ _ | refine blk_drew ?_ | refine blk_alloc ?_ _)); exact BK163.out) hb)
                                have n5_ := Aside0.mk (blk_below (g := gb164) (o := .cells #[.int .i64 a1] 3 (0, 0)) (by (with_reducible repeat (first | refine blk_drewN ?_ _ | refine blk_drew ?_ | refine blk_alloc ?_ _)); exact BK164.out) hb)
                                have n6_ := Aside0.mk (blk_below (g := gb167) (o := .cells #[.int .i64 (wrap64 (x168000_3 + ((rd_T43 y169 x15_3).f0))), .int .i64 (wrap64 (x168001_3 + ((rd_T43 y169 x15_3).f1)))] 43 (0, 0)) (by (with_reducible repeat (first | refine blk_drewN ?_ _ | refine blk_drew ?_ | refine blk_alloc ?_ _)); exact BK167.out) hb)
                                have n7_ := Aside0.mk (blk_below (g := gb168) (o := .cells #[.int .i64 (Int.tmod x7_16 a0_0), .int .i64 (wrap64 (Int.tdiv x7_16 a0_0))] 43 (0, 0)) (by (with_reducible repeat (first | refine blk_drewN ?_ _ | refine blk_drew ?_ | refine blk_alloc ?_ _)); exact BK168.out) hb)
                                have n8_ := Aside0.mk (below_step (by repeat (first | (with_reducible first | exact HB.out | apply below_alloc | apply pw_below_drewN | apply below_drew1 | refine below_set ?_ GE163.out | refine below_set ?_ GE164.out | refine below_set ?_ GE167.out | refine below_set ?_ GE168.out) | exact HB.out)) hb)
                                clear HO_12
                                clear HO_13
                                clear HO_14
                                clear HO_16
                                clear BK163
                                clear BK164
                                clear BK167
                                clear BK168
                                clear HB
                                have HO_12 := n0_
                                have HO_13 := n1_
                                have HO_14 := n2_
                                have HO_16 := n3_
                                have BK163 := n4_
                                have BK164 := n5_
                                have BK167 := n6_
                                have BK168 := n7_
                                have HB := n8_
                                clear n0_ n1_ n2_ n3_ n4_ n5_ n6_ n7_ n8_
                                (try clear hb)
                                (try clear hb2)
                                (try clear hk)
                                (try clear hi)
                                refine hK.out _ _ ⟨(blk_cell BK167.out 0).trans rfl, (blk_cell BK167.out 1).trans rfl, HS2_, HS3_, HS4_, HS5_⟩ (fun hHeld => ?_)
                                clear hK K
                                refine norm_ (a' := ?_) ?_ ?_
                                rotate_left
                                · show Act.put _ (some 105) _ = _
                                  simp only [Act.put, List.setIfInBounds_toArray, List.set_cons_zero, List.set_cons_succ, i64_w, i32_w]
                                  rfl
                                refine pure_ (i := 16) (N := some 17) (v := ?_) (a' := ?_) #[true, true, true, true, true, true, true, true, true, true, true, true, true, true, true, true, true] rfl rfl (any_of HT_.out (by kernel_rfl)) (fun _ _ _ h => h) (Or.inl ⟨by rfl, ?_⟩) ?_ ?_
                                rotate_left
                                · intro w'
                                  go_simp
                                  with_reducible rfl
                                rotate_left
                                · simp only [Act.put, List.setIfInBounds_toArray, List.set_cons_zero, List.set_cons_succ, i64_w, i32_w]
                                  rfl
                                refine done_ (done_of HT_.out (by kernel_rfl)) ?_
                                try go_wp2
                                have n0_ := Aside0.mk (Kd.R_drew HO_12.out)
                                have n1_ := Aside0.mk (Kd.R_drew HO_13.out)
                                have n2_ := Aside0.mk (Kd.R_drew HO_14.out)
                                have n3_ := Aside0.mk (Kd.R_drew HO_16.out)
                                have n4_ := Aside0.mk (blk_drew BK163.out)
                                have n5_ := Aside0.mk (blk_drew BK164.out)
                                have n6_ := Aside0.mk (blk_drew BK167.out)
                                have n7_ := Aside0.mk (blk_drew BK168.out)
                                have n8_ := Aside0.mk (below_drew1 HB.out)
                                clear HO_12
                                clear HO_13
                                clear HO_14
                                clear HO_16
                                clear BK163
                                clear BK164
                                clear BK167
                                clear BK168
                                clear HB
                                have HO_12 := n0_
                                have HO_13 := n1_
                                have HO_14 := n2_
                                have HO_16 := n3_
                                have BK163 := n4_
                                have BK164 := n5_
                                have BK167 := n6_
                                have BK168 := n7_
                                have HB := n8_
                                clear n0_ n1_ n2_ n3_ n4_ n5_ n6_ n7_ n8_
                                obtain ⟨Ao92, co92, eo92⟩ := Kd.R_slice HO_14.out
                                (first | subst eo92 | (injection eo92 with f1_ f2_ f3_; have f4_ := f1_.symm; have f5_ := f3_.symm; clear f1_ f2_ f3_; subst f4_; subst f5_))
                                have p186 : 0 ≤ (x15_3 : Int) := of_decide_eq_true (by first | (with_reducible assumption) | assumption)
                                have q186 : x15_3 < (y175.length : Int) := of_decide_eq_true (by first | (with_reducible assumption) | assumption)
                                obtain ⟨ad186, e186, hx186_0, hx186_1⟩ := at_T43 (Kd.R_reads' HO_14.out).2.2 x15_3 p186 q186
                                cases e186
                                have hv_ := HV14_.out
                                injection hv_ with hva hvb hvc
                                have hva := Option.some.inj hva
                                have hvb : y175.length = 4 := hvb
                                have hxa186_0 := hx186_0; rw [hva] at hxa186_0; simp only [arr_add] at hxa186_0
                                have hxa186_1 := hx186_1; rw [hva] at hxa186_1; simp only [arr_add] at hxa186_1
                                have q8186_ : (x15_3) < (4 : Int) := by have := of_eq_true (eq_true q186); omega
                                replace q8186_ := eq_true q8186_
                                have HVa186 := Aside0.mk hva
                                clear hva hvb hvc
                                replace p186 := eq_true p186
                                replace q186 := eq_true q186
                                have p187 : 0 ≤ (x15_3 : Int) := of_decide_eq_true (by first | (with_reducible assumption) | assumption)
                                have q187 : x15_3 < (y175.length : Int) := of_decide_eq_true (by first | (with_reducible assumption) | assumption)
                                obtain ⟨ad187, e187, hx187_0, hx187_1⟩ := at_T43 (Kd.R_reads' HO_14.out).2.2 x15_3 p187 q187
                                obtain rfl : ad186 = ad187 := (by injection e187)
                                have hv_ := HV14_.out
                                injection hv_ with hva hvb hvc
                                have hva := Option.some.inj hva
                                have hvb : y175.length = 4 := hvb
                                have hxa187_0 := hx187_0; rw [hva] at hxa187_0; simp only [arr_add] at hxa187_0
                                have hxa187_1 := hx187_1; rw [hva] at hxa187_1; simp only [arr_add] at hxa187_1
                                have q8187_ : (x15_3) < (4 : Int) := by have := of_eq_true (eq_true q187); omega
                                replace q8187_ := eq_true q8187_
                                have HVa187 := Aside0.mk hva
                                clear hva hvb hvc
                                replace p187 := eq_true p187
                                replace q187 := eq_true q187
                                refine start_ (n := 17) (S := fun w' => w'.cell? ⟨gb167, 0, none⟩ = some (.int .i64 (wrap64 (x168000_3 + ((rd_T43 y169 x15_3).f0)))) ∧ w'.cell? ⟨gb167, 1, none⟩ = some (.int .i64 (wrap64 (x168001_3 + ((rd_T43 y169 x15_3).f1)))) ∧ w'.cell? ⟨gA14, ((x15_3).toNat * 2), none⟩ = some (.int .i64 ((rd_T43 y175 x15_3).f0)) ∧ w'.cell? ⟨gA14, ((x15_3).toNat * 2) + 1, none⟩ = some (.int .i64 ((rd_T43 y175 x15_3).f1)) ∧ w'.cell? ⟨gA14, ((x15_3).toNat * 2), none⟩ = some (.int .i64 ((rd_T43 y175 x15_3).f0)) ∧ w'.cell? ⟨gA14, ((x15_3).toNat * 2) + 1, none⟩ = some (.int .i64 ((rd_T43 y175 x15_3).f1))) (ds := []) #[false, false, false, false, false, false, false, false, false, false, false, false, false, false, false, false, false] (by kernel_rfl) rfl rfl ⟨(blk_cell BK167.out 0).trans rfl, (blk_cell BK167.out 1).trans rfl, hxa186_0, hxa186_1, hxa187_0, hxa187_1⟩ (fun hHeld => ?_); refine with_tabW impl_Contour.tab26 impl_Contour.bits26 (fun HT_ HW_ => ?_)
                                generalize w90.drew = w91 at HO_12 HO_13 HO_14 HO_16 BK163 BK164 BK167 BK168 HB hx186_0 hxa186_0 hx186_1 hxa186_1 hx187_0 hxa187_0 hx187_1 hxa187_1 hHeld ⊢
                                refine pure_ (i := 0) (N := some 106) (v := ?_) (a' := ?_) #[true, false, false, false, false, false, false, false, false, false, false, false, false, false, false, false, false] rfl rfl (any_of HT_.out (by kernel_rfl)) (fun _ _ _ h => h) (Or.inl ⟨by rfl, ?_⟩) ?_ ?_
                                rotate_left
                                · intro w'
                                  go_simp
                                  with_reducible rfl
                                rotate_left
                                · simp only [Act.put, List.setIfInBounds_toArray, List.set_cons_zero, List.set_cons_succ, i64_w, i32_w]
                                  rfl
                                refine pure_ (i := 1) (N := some 107) (v := ?_) (a' := ?_) #[true, true, false, false, false, false, false, false, false, false, false, false, false, false, false, false, false] rfl rfl (any_of HT_.out (by kernel_rfl)) (fun _ _ _ h => h) (Or.inl ⟨by rfl, ?_⟩) ?_ ?_
                                rotate_left
                                · intro w'
                                  go_simp
                                  with_reducible rfl
                                rotate_left
                                · simp only [Act.put, List.setIfInBounds_toArray, List.set_cons_zero, List.set_cons_succ, i64_w, i32_w]
                                  rfl
                                refine pure_ (i := 3) (N := some 109) (v := ?_) (a' := ?_) #[true, true, false, true, false, false, false, false, false, false, false, false, false, false, false, false, false] rfl rfl (any_of HT_.out (by kernel_rfl)) (fun _ _ _ h => h) (Or.inl ⟨by rfl, ?_⟩) ?_ ?_
                                rotate_left
                                · intro w'
                                  go_simp
                                  with_reducible rfl
                                rotate_left
                                · simp only [Act.put, List.setIfInBounds_toArray, List.set_cons_zero, List.set_cons_succ, i64_w, i32_w]
                                  rfl
                                refine pure_ (i := 4) (N := some 110) (v := ?_) (a' := ?_) #[true, true, false, true, true, false, false, false, false, false, false, false, false, false, false, false, false] rfl rfl (any_of HT_.out (by kernel_rfl)) (fun _ _ _ h => h) (Or.inl ⟨by rfl, ?_⟩) ?_ ?_
                                rotate_left
                                · intro w'
                                  go_simp
                                  with_reducible rfl
                                rotate_left
                                · simp only [Act.put, List.setIfInBounds_toArray, List.set_cons_zero, List.set_cons_succ, i64_w, i32_w]
                                  rfl
                                refine pure_ (i := 5) (N := some 111) (v := ?_) (a' := ?_) #[true, true, false, true, true, true, false, false, false, false, false, false, false, false, false, false, false] rfl rfl (any_of HT_.out (by kernel_rfl)) (fun _ _ _ h => h) (Or.inl ⟨by rfl, ?_⟩) ?_ ?_
                                rotate_left
                                · intro w'
                                  go_simp
                                  with_reducible rfl
                                rotate_left
                                · simp only [Act.put, List.setIfInBounds_toArray, List.set_cons_zero, List.set_cons_succ, i64_w, i32_w]
                                  rfl
                                refine pure_ (i := 8) (N := some 114) (v := ?_) (a' := ?_) #[true, true, false, true, true, true, false, false, true, false, false, false, false, false, false, false, false] rfl rfl (any_of HT_.out (by kernel_rfl)) (fun _ _ _ h => h) (Or.inl ⟨by rfl, ?_⟩) ?_ ?_
                                rotate_left
                                · intro w'
                                  go_simp
                                  with_reducible rfl
                                rotate_left
                                · simp only [Act.put, List.setIfInBounds_toArray, List.set_cons_zero, List.set_cons_succ, i64_w, i32_w]
                                  rfl
                                refine pure_ (i := 10) (N := some 116) (v := ?_) (a' := ?_) #[true, true, false, true, true, true, false, false, true, false, true, false, false, false, false, false, false] rfl rfl (any_of HT_.out (by kernel_rfl)) (fun _ _ _ h => h) (Or.inl ⟨by rfl, ?_⟩) ?_ ?_
                                rotate_left
                                · intro w'
                                  go_simp
                                  with_reducible rfl
                                rotate_left
                                · simp only [Act.put, List.setIfInBounds_toArray, List.set_cons_zero, List.set_cons_succ, i64_w, i32_w]
                                  rfl
                                refine pure_ (i := 11) (N := some 117) (v := ?_) (a' := ?_) #[true, true, false, true, true, true, false, false, true, false, true, true, false, false, false, false, false] rfl rfl (any_of HT_.out (by kernel_rfl)) (fun _ _ _ h => h) (Or.inl ⟨by rfl, ?_⟩) ?_ ?_
                                rotate_left
                                · intro w'
                                  go_simp
                                  with_reducible rfl
                                rotate_left
                                · simp only [Act.put, List.setIfInBounds_toArray, List.set_cons_zero, List.set_cons_succ, i64_w, i32_w]
                                  rfl
                                refine pure_ (i := 12) (N := some 118) (v := ?_) (a' := ?_) #[true, true, false, true, true, true, false, false, true, false, true, true, true, false, false, false, false] rfl rfl (any_of HT_.out (by kernel_rfl)) (fun _ _ _ h => h) (Or.inl ⟨by rfl, ?_⟩) ?_ ?_
                                rotate_left
                                · intro w'
                                  go_simp
                                  with_reducible rfl
                                rotate_left
                                · simp only [Act.put, List.setIfInBounds_toArray, List.set_cons_zero, List.set_cons_succ, i64_w, i32_w]
                                  rfl
                                refine take_ (i := 2) (N := some 108) (v := ?_) (a' := ?_) #[true, true, true, true, true, true, false, false, true, false, true, true, true, false, false, false, false] rfl rfl (take_ofW HT_.out HW_.out (by kernel_rfl)) (fun _ _ _ h => h) (Or.inl ⟨by rfl, ?_⟩) hHeld ?_ ?_
                                rotate_left
                                · rintro w' ⟨s0, s1, s2, s3, s4, s5⟩
                                  go_simp
                                  with_reducible rfl
                                rotate_left
                                · simp only [Act.put, List.setIfInBounds_toArray, List.set_cons_zero, List.set_cons_succ, i64_w, i32_w]
                                  rfl
                                refine take_ (i := 6) (N := some 112) (v := ?_) (a' := ?_) #[true, true, true, true, true, true, true, false, true, false, true, true, true, false, false, false, false] rfl rfl (take_ofW HT_.out HW_.out (by kernel_rfl)) (fun _ _ _ h => h) (Or.inl ⟨by rfl, ?_⟩) hHeld ?_ ?_
                                rotate_left
                                · rintro w' ⟨s0, s1, s2, s3, s4, s5⟩
                                  go_simp
                                  with_reducible rfl
                                rotate_left
                                · simp only [Act.put, List.setIfInBounds_toArray, List.set_cons_zero, List.set_cons_succ, i64_w, i32_w]
                                  rfl
                                refine pure_ (i := 7) (N := some 113) (v := ?_) (a' := ?_) #[true, true, true, true, true, true, true, true, true, false, true, true, true, false, false, false, false] rfl rfl (any_of HT_.out (by kernel_rfl)) (fun _ _ _ h => h) (Or.inl ⟨by rfl, ?_⟩) ?_ ?_
                                rotate_left
                                · intro w'
                                  go_simp
                                  with_reducible rfl
                                rotate_left
                                · simp only [Act.put, List.setIfInBounds_toArray, List.set_cons_zero, List.set_cons_succ, i64_w, i32_w]
                                  rfl
                                refine take_ (i := 9) (N := some 115) (v := ?_) (a' := ?_) #[true, true, true, true, true, true, true, true, true, true, true, true, true, false, false, false, false] rfl rfl (take_ofW HT_.out HW_.out (by kernel_rfl)) (fun _ _ _ h => h) (Or.inl ⟨by rfl, ?_⟩) hHeld ?_ ?_
                                rotate_left
                                · rintro w' ⟨s0, s1, s2, s3, s4, s5⟩
                                  go_simp
                                  with_reducible rfl
                                rotate_left
                                · simp only [Act.put, List.setIfInBounds_toArray, List.set_cons_zero, List.set_cons_succ, i64_w, i32_w]
                                  rfl
                                refine take_ (i := 13) (N := some 119) (v := ?_) (a' := ?_) #[true, true, true, true, true, true, true, true, true, true, true, true, true, true, false, false, false] rfl rfl (take_ofW HT_.out HW_.out (by kernel_rfl)) (fun _ _ _ h => h) (Or.inl ⟨by rfl, ?_⟩) hHeld ?_ ?_
                                rotate_left
                                · rintro w' ⟨s0, s1, s2, s3, s4, s5⟩
                                  go_simp
                                  with_reducible rfl
                                rotate_left
                                · simp only [Act.put, List.setIfInBounds_toArray, List.set_cons_zero, List.set_cons_succ, i64_w, i32_w]
                                  rfl
                                refine pure_ (i := 14) (N := some 120) (v := ?_) (a' := ?_) #[true, true, true, true, true, true, true, true, true, true, true, true, true, true, true, false, false] rfl rfl (any_of HT_.out (by kernel_rfl)) (fun _ _ _ h => h) (Or.inl ⟨by rfl, ?_⟩) ?_ ?_
                                rotate_left
                                · intro w'
                                  go_simp
                                  with_reducible rfl
                                rotate_left
                                · simp only [Act.put, List.setIfInBounds_toArray, List.set_cons_zero, List.set_cons_succ, i64_w, i32_w]
                                  rfl
                                refine one_ (i := 15) (N := some 121) #[true, true, true, true, true, true, true, true, true, true, true, true, true, true, true, true, false] rfl rfl (one_of HT_.out (by kernel_rfl)) (by decide) (fun K hK => ?_)
                                refine goesD_ (cap := #[.pointer (some ⟨gb163, 0, none⟩), .pointer (some ⟨gb164, 0, none⟩)]) Try.func53 (by kernel_rfl) rfl #[.int .i64 (wrap64 ((wrap64 (x168000_3 + ((rd_T43 y169 x15_3).f0))) + ((rd_T43 y175 x15_3).f0))), .int .i64 (wrap64 ((wrap64 (x168001_3 + ((rd_T43 y169 x15_3).f1))) + ((rd_T43 y175 x15_3).f1))), .pointer (some ⟨gb163, 0, none⟩), .pointer (some ⟨gb164, 0, none⟩)] (by rfl) rfl rfl (by rfl) (by first | (go_simp; done) | rfl) ?_
                                with_reducible refine (impl_Contour_1.calls (wrap64 ((wrap64 (x168000_3 + ((rd_T43 y169 x15_3).f0))) + ((rd_T43 y175 x15_3).f0))) (wrap64 ((wrap64 (x168001_3 + ((rd_T43 y169 x15_3).f1))) + ((rd_T43 y175 x15_3).f1))) a0_0 a0_1 A0_2 c0_2 l0_2 a1 t188 _ ?side1 ?side2 gb163 gb164 ?sideP ?sideZ A71.out).mono ?_
                                (case sideP => (with_reducible repeat (first | refine blk_drewN ?_ _ | refine blk_drew ?_ | refine blk_alloc ?_ _)); exact BK163.out)
                                (case sideZ => (with_reducible repeat (first | refine blk_drewN ?_ _ | refine blk_drew ?_ | refine blk_alloc ?_ _)); exact BK164.out)
                                (case side1 => repeat (first | exact (Kd.C_below HR0_2.out HB.out) | (with_reducible refine Kd.C_alloc ?_ _) | (with_reducible refine Kd.C_drewN ?_ _) | (with_reducible refine Kd.C_drew ?_)))
                                (case side2 => exact HC0_2.out)
                                rintro e w93 ⟨rfl, hb⟩
                                have HS2_ := (hb.cell (World.block_lt_of_cell? _ _ (hHeld.2.2.1))).trans (hHeld.2.2.1)
                                have HS3_ := (hb.cell (World.block_lt_of_cell? _ _ (hHeld.2.2.2.1))).trans (hHeld.2.2.2.1)
                                have HS4_ := (hb.cell (World.block_lt_of_cell? _ _ (hHeld.2.2.2.2.1))).trans (hHeld.2.2.2.2.1)
                                have HS5_ := (hb.cell (World.block_lt_of_cell? _ _ (hHeld.2.2.2.2.2))).trans (hHeld.2.2.2.2.2)
                                refine ⟨_, rfl, ?_⟩
                                have n0_ := Aside0.mk (Kd.R_below (by (with_reducible repeat (first | apply Kd.R_alloc | apply Kd.R_drewN | apply Kd.R_drew)); exact HO_12.out) hb)
                                have n1_ := Aside0.mk (Kd.R_below (by (with_reducible repeat (first | apply Kd.R_alloc | apply Kd.R_drewN | apply Kd.R_drew)); exact HO_13.out) hb)
                                have n2_ := Aside0.mk (Kd.R_below (by (with_reducible repeat (first | apply Kd.R_alloc | apply Kd.R_drewN | apply Kd.R_drew)); exact HO_14.out) hb)
                                have n3_ := Aside0.mk (Kd.R_below (by (with_reducible repeat (first | apply Kd.R_alloc | apply Kd.R_drewN | apply Kd.R_drew)); exact HO_16.out) hb)
                                have n4_ := Aside0.mk (blk_below (g := gb163) (o := .cells #[.int .i64 a0_0, .int .i64 a0_1, .slice A0_2 l0_2.length c0_2] 26 (0, 0)) (by (with_reducible repeat (first | refine blk_drewN ?_ _ | refine blk_drew ?_ | refine blk_alloc ?_ _)); exact BK163.out) hb)
                                have n5_ := Aside0.mk (blk_below (g := gb164) (o := .cells #[.int .i64 a1] 3 (0, 0)) (by (with_reducible repeat (first | refine blk_drewN ?_ _ | refine blk_drew ?_ | refine blk_alloc ?_ _)); exact BK164.out) hb)
                                have n6_ := Aside0.mk (blk_below (g := gb167) (o := .cells #[.int .i64 (wrap64 (x168000_3 + ((rd_T43 y169 x15_3).f0))), .int .i64 (wrap64 (x168001_3 + ((rd_T43 y169 x15_3).f1)))] 43 (0, 0)) (by (with_reducible repeat (first | refine blk_drewN ?_ _ | refine blk_drew ?_ | refine blk_alloc ?_ _)); exact BK167.out) hb)
                                have n7_ := Aside0.mk (blk_below (g := gb168) (o := .cells #[.int .i64 (Int.tmod x7_16 a0_0), .int .i64 (wrap64 (Int.tdiv x7_16 a0_0))] 43 (0, 0)) (by (with_reducible repeat (first | refine blk_drewN ?_ _ | refine blk_drew ?_ | refine blk_alloc ?_ _)); exact BK168.out) hb)
                                have n8_ := Aside0.mk (below_step (by repeat (first | (with_reducible first | exact HB.out | apply below_alloc | apply pw_below_drewN | apply below_drew1 | refine below_set ?_ GE163.out | refine below_set ?_ GE164.out | refine below_set ?_ GE167.out | refine below_set ?_ GE168.out) | exact HB.out)) hb)
                                clear HO_12
                                clear HO_13
                                clear HO_14
                                clear HO_16
                                clear BK163
                                clear BK164
                                clear BK167
                                clear BK168
                                clear HB
                                have HO_12 := n0_
                                have HO_13 := n1_
                                have HO_14 := n2_
                                have HO_16 := n3_
                                have BK163 := n4_
                                have BK164 := n5_
                                have BK167 := n6_
                                have BK168 := n7_
                                have HB := n8_
                                clear n0_ n1_ n2_ n3_ n4_ n5_ n6_ n7_ n8_
                                (try clear hb)
                                (try clear hb2)
                                (try clear hk)
                                (try clear hi)
                                refine hK.out _ _ ⟨(blk_cell BK167.out 0).trans rfl, (blk_cell BK167.out 1).trans rfl, HS2_, HS3_, HS4_, HS5_⟩ (fun hHeld => ?_)
                                clear hK K
                                refine norm_ (a' := ?_) ?_ ?_
                                rotate_left
                                · show Act.put _ (some 121) _ = _
                                  simp only [Act.put, List.setIfInBounds_toArray, List.set_cons_zero, List.set_cons_succ, i64_w, i32_w]
                                  rfl
                                refine pure_ (i := 16) (N := some 18) (v := ?_) (a' := ?_) #[true, true, true, true, true, true, true, true, true, true, true, true, true, true, true, true, true] rfl rfl (any_of HT_.out (by kernel_rfl)) (fun _ _ _ h => h) (Or.inl ⟨by rfl, ?_⟩) ?_ ?_
                                rotate_left
                                · intro w'
                                  go_simp
                                  with_reducible rfl
                                rotate_left
                                · simp only [Act.put, List.setIfInBounds_toArray, List.set_cons_zero, List.set_cons_succ, i64_w, i32_w]
                                  rfl
                                refine done_ (done_of HT_.out (by kernel_rfl)) ?_
                                go_upto_if 122 with (fail)
                                refine then_wrap (fun _ _ => ?_)
                                go_cut [15, 16] (fun v15 v16 wc => ∃ (kq : Nat) (x15_71 : Int) (x16_71 : List (S43)), v15 = .int .i64 x15_71 ∧ Aside0 (impl_Contour.j5 kq y169 y172 y175 x15_71 x16_71 a0_0 a0_1 l0_2 a1 0 (wrap64 (x168000_3 + ((rd_T43 y169 x15_3).f0))) (wrap64 (x168001_3 + ((rd_T43 y169 x15_3).f1))) (Int.tmod x7_16 a0_0) (wrap64 (Int.tdiv x7_16 a0_0)) = some (r1, r2)) ∧ Aside0 (kq ≤ k3) ∧ Aside0 (Kd.R k43 70 wc w.heap.size (fun k_ => some k_ ≠ ((.slice (some ad183) y172.length co89) : Value).ownBlock ∧ some k_ ≠ ((.slice (some ad186) y175.length co92) : Value).ownBlock ∧ some k_ ≠ (v16 : Value).ownBlock ∧ k_ ≠ gb164 ∧ k_ ≠ gb167 ∧ k_ ≠ gb168) (.slice (some ad181) y169.length co74) y169) ∧ Aside0 (Kd.R k43 70 wc w.heap.size (fun k_ => some k_ ≠ ((.slice (some ad181) y169.length co74) : Value).ownBlock ∧ some k_ ≠ ((.slice (some ad186) y175.length co92) : Value).ownBlock ∧ some k_ ≠ (v16 : Value).ownBlock ∧ k_ ≠ gb164 ∧ k_ ≠ gb167 ∧ k_ ≠ gb168) (.slice (some ad183) y172.length co89) y172) ∧ Aside0 (Kd.R k43 70 wc w.heap.size (fun k_ => some k_ ≠ ((.slice (some ad181) y169.length co74) : Value).ownBlock ∧ some k_ ≠ ((.slice (some ad183) y172.length co89) : Value).ownBlock ∧ some k_ ≠ (v16 : Value).ownBlock ∧ k_ ≠ gb164 ∧ k_ ≠ gb167 ∧ k_ ≠ gb168) (.slice (some ad186) y175.length co92) y175) ∧ Aside0 (Kd.R k43 43 wc w.heap.size (fun k_ => some k_ ≠ ((.slice (some ad181) y169.length co74) : Value).ownBlock ∧ some k_ ≠ ((.slice (some ad183) y172.length co89) : Value).ownBlock ∧ some k_ ≠ ((.slice (some ad186) y175.length co92) : Value).ownBlock ∧ k_ ≠ gb164 ∧ k_ ≠ gb167 ∧ k_ ≠ gb168) v16 x16_71) ∧ Aside0 (wc.heap[gb163]? = some (.cells #[.int .i64 a0_0, .int .i64 a0_1, (.slice A0_2 l0_2.length c0_2)] 26 (0, 0))) ∧ Aside0 (wc.heap[gb164]? = some (.cells #[.int .i64 a1] 3 (0, 0))) ∧ Aside0 (wc.heap[gb167]? = some (.cells #[.int .i64 (wrap64 (x168000_3 + ((rd_T43 y169 x15_3).f0))), .int .i64 (wrap64 (x168001_3 + ((rd_T43 y169 x15_3).f1)))] 43 (0, 0))) ∧ Aside0 (wc.heap[gb168]? = some (.cells #[.int .i64 (Int.tmod x7_16 a0_0), .int .i64 (wrap64 (Int.tdiv x7_16 a0_0))] 43 (0, 0))) ∧ Aside0 (Below w.heap.size w wc))
                                case first =>
                                  have H := HC72.out
                                  clear HC72
                                  by_cases c94 : t185 = true
                                  · subst c94
                                    have H1 : (if t188 = true then (if x16_3.length < 8796093022208 then (impl_Contour.j4 k3 y169 y172 y175 (Int.tmod (wrap64 (x15_3 + 3)) 4) (x16_3 ++ [(⟨wrap64 (x168000_3 + ((rd_T43 y169 x15_3).f0)), wrap64 (x168001_3 + ((rd_T43 y169 x15_3).f1))⟩ : S43)]) a0_0 a0_1 l0_2 a1 0 (wrap64 (x168000_3 + ((rd_T43 y169 x15_3).f0))) (wrap64 (x168001_3 + ((rd_T43 y169 x15_3).f1))) (Int.tmod x7_16 a0_0) (wrap64 (Int.tdiv x7_16 a0_0))) else (none)) else (impl_Contour.j4 k3 y169 y172 y175 x15_3 x16_3 a0_0 a0_1 l0_2 a1 0 (wrap64 (x168000_3 + ((rd_T43 y169 x15_3).f0))) (wrap64 (x168001_3 + ((rd_T43 y169 x15_3).f1))) (Int.tmod x7_16 a0_0) (wrap64 (Int.tdiv x7_16 a0_0)))) = some (r1, r2) := by rw [if_pos rfl] at H; exact H
                                    clear H
                                    have H := H1
                                    clear H1
                                    have HC95 := Aside0.mk H
                                    clear H
                                    go_upto_if 132 with (fail)
                                    go_cut [15, 16] (fun v15 v16 wc => ∃ (kq : Nat) (x15_94 : Int) (x16_94 : List (S43)), v15 = .int .i64 x15_94 ∧ Aside0 (impl_Contour.j4 kq y169 y172 y175 x15_94 x16_94 a0_0 a0_1 l0_2 a1 0 (wrap64 (x168000_3 + ((rd_T43 y169 x15_3).f0))) (wrap64 (x168001_3 + ((rd_T43 y169 x15_3).f1))) (Int.tmod x7_16 a0_0) (wrap64 (Int.tdiv x7_16 a0_0)) = some (r1, r2)) ∧ Aside0 (kq ≤ k3) ∧ Aside0 (Kd.R k43 70 wc w.heap.size (fun k_ => some k_ ≠ ((.slice (some ad183) y172.length co89) : Value).ownBlock ∧ some k_ ≠ ((.slice (some ad186) y175.length co92) : Value).ownBlock ∧ some k_ ≠ (v16 : Value).ownBlock ∧ k_ ≠ gb164 ∧ k_ ≠ gb167 ∧ k_ ≠ gb168) (.slice (some ad181) y169.length co74) y169) ∧ Aside0 (Kd.R k43 70 wc w.heap.size (fun k_ => some k_ ≠ ((.slice (some ad181) y169.length co74) : Value).ownBlock ∧ some k_ ≠ ((.slice (some ad186) y175.length co92) : Value).ownBlock ∧ some k_ ≠ (v16 : Value).ownBlock ∧ k_ ≠ gb164 ∧ k_ ≠ gb167 ∧ k_ ≠ gb168) (.slice (some ad183) y172.length co89) y172) ∧ Aside0 (Kd.R k43 70 wc w.heap.size (fun k_ => some k_ ≠ ((.slice (some ad181) y169.length co74) : Value).ownBlock ∧ some k_ ≠ ((.slice (some ad183) y172.length co89) : Value).ownBlock ∧ some k_ ≠ (v16 : Value).ownBlock ∧ k_ ≠ gb164 ∧ k_ ≠ gb167 ∧ k_ ≠ gb168) (.slice (some ad186) y175.length co92) y175) ∧ Aside0 (Kd.R k43 43 wc w.heap.size (fun k_ => some k_ ≠ ((.slice (some ad181) y169.length co74) : Value).ownBlock ∧ some k_ ≠ ((.slice (some ad183) y172.length co89) : Value).ownBlock ∧ some k_ ≠ ((.slice (some ad186) y175.length co92) : Value).ownBlock ∧ k_ ≠ gb164 ∧ k_ ≠ gb167 ∧ k_ ≠ gb168) v16 x16_94) ∧ Aside0 (wc.heap[gb163]? = some (.cells #[.int .i64 a0_0, .int .i64 a0_1, (.slice A0_2 l0_2.length c0_2)] 26 (0, 0))) ∧ Aside0 (wc.heap[gb164]? = some (.cells #[.int .i64 a1] 3 (0, 0))) ∧ Aside0 (wc.heap[gb167]? = some (.cells #[.int .i64 (wrap64 (x168000_3 + ((rd_T43 y169 x15_3).f0))), .int .i64 (wrap64 (x168001_3 + ((rd_T43 y169 x15_3).f1)))] 43 (0, 0))) ∧ Aside0 (wc.heap[gb168]? = some (.cells #[.int .i64 (Int.tmod x7_16 a0_0), .int .i64 (wrap64 (Int.tdiv x7_16 a0_0))] 43 (0, 0))) ∧ Aside0 (Below w.heap.size w wc))
                                    case first =>
                                      have H := HC95.out
                                      clear HC95
                                      by_cases c96 : t188 = true
                                      · subst c96
                                        have H1 : (if x16_3.length < 8796093022208 then (impl_Contour.j4 k3 y169 y172 y175 (Int.tmod (wrap64 (x15_3 + 3)) 4) (x16_3 ++ [(⟨wrap64 (x168000_3 + ((rd_T43 y169 x15_3).f0)), wrap64 (x168001_3 + ((rd_T43 y169 x15_3).f1))⟩ : S43)]) a0_0 a0_1 l0_2 a1 0 (wrap64 (x168000_3 + ((rd_T43 y169 x15_3).f0))) (wrap64 (x168001_3 + ((rd_T43 y169 x15_3).f1))) (Int.tmod x7_16 a0_0) (wrap64 (Int.tdiv x7_16 a0_0))) else (none)) = some (r1, r2) := by rw [if_pos rfl] at H; exact H
                                        clear H
                                        have H := H1
                                        clear H1
                                        by_cases c97 : x16_3.length < 8796093022208
                                        · rw [if_pos c97] at H
                                          have LMc97 := Aside0.mk c97
                                          clear c97
                                          obtain ⟨y189, hy189⟩ : ∃ y_ : List (S43), y_ = (x16_3 ++ [(⟨wrap64 (x168000_3 + ((rd_T43 y169 x15_3).f0)), wrap64 (x168001_3 + ((rd_T43 y169 x15_3).f1))⟩ : S43)]) := ⟨_, rfl⟩
                                          replace H : (impl_Contour.j4 k3 y169 y172 y175 (Int.tmod (wrap64 (x15_3 + 3)) 4) y189 a0_0 a0_1 l0_2 a1 0 (wrap64 (x168000_3 + ((rd_T43 y169 x15_3).f0))) (wrap64 (x168001_3 + ((rd_T43 y169 x15_3).f1))) (Int.tmod x7_16 a0_0) (wrap64 (Int.tdiv x7_16 a0_0))) = some (r1, r2) := by first | (rw [hy189]; with_reducible exact H) | (have H2_ := (Option.bind_some _ _).symm.trans H; rw [hy189]; with_reducible exact H2_) | (have H2_ := (Option.bind_some _ _).symm.trans H; with_reducible exact H2_) | with_reducible exact H | (rw [hy189]; exact H) | exact H
                                          have Ny189 := Aside0.mk hy189
                                          clear hy189
                                          have H' := Aside0.mk H
                                          clear H
                                          have hnb98 := NB167_163.out
                                          have hnc98 := NB163_167.out
                                          have hnb99 := NB167_164.out
                                          have hnc99 := NB164_167.out
                                          have hnb100 := NB167_168.out
                                          have hnc100 := NB168_167.out
                                          have hcz101_0 : w93.cell? ⟨gb167, 0, none⟩ = some (.int .i64 (wrap64 (x168000_3 + ((rd_T43 y169 x15_3).f0)))) := (blk_cell BK167.out 0).trans rfl
                                          have hcz101_1 : w93.cell? ⟨gb167, 1, none⟩ = some (.int .i64 (wrap64 (x168001_3 + ((rd_T43 y169 x15_3).f1)))) := (blk_cell BK167.out 1).trans rfl
                                          have hfz101_0 := blk_frozen BK167.out 0
                                          have hfz101_1 := blk_frozen BK167.out 1
                                          go_wp2_with (first | ((with_reducible refine gate_builtin (b := .append) (xs := #[.tmp 137, .tmp 139]) rfl ?_); at_builtin; refine Kd.R_append k43 (w0 := w) w.heap.size rfl (.tmp 137) (.tmp 139) 33 43 (.agg #[(.int .i64 0), (.int .i64 0)]) 16 rfl Try.underlying33 info43 rfl (by decide) (by omega) u16 x16_3 (⟨wrap64 (x168000_3 + ((rd_T43 y169 x15_3).f0)), wrap64 (x168001_3 + ((rd_T43 y169 x15_3).f1))⟩ : S43) [.int .i64 (wrap64 (x168000_3 + ((rd_T43 y169 x15_3).f0))), .int .i64 (wrap64 (x168001_3 + ((rd_T43 y169 x15_3).f1)))] (fun k_ => some k_ ≠ (.slice (some ad181) y169.length co74 : Value).ownBlock ∧ some k_ ≠ (.slice (some ad183) y172.length co89 : Value).ownBlock ∧ some k_ ≠ (.slice (some ad186) y175.length co92 : Value).ownBlock ∧ k_ ≠ gb164 ∧ k_ ≠ gb167 ∧ k_ ≠ gb168) (fun _ => False) rfl rfl ?aP (fun _ hk => hk.elim) ?aF ?aO ?aB ?aS ?aL ?_; (case aP => exact k43_mkM _ _ _ (⟨wrap64 (x168000_3 + ((rd_T43 y169 x15_3).f0)), wrap64 (x168001_3 + ((rd_T43 y169 x15_3).f1))⟩ : S43)); (case aB => exact (by repeat (first | (with_reducible first | exact HB.out | apply below_alloc | apply pw_below_drewN | apply below_drew1 | refine below_set ?_ GE163.out | refine below_set ?_ GE164.out | refine below_set ?_ GE167.out | refine below_set ?_ GE168.out) | exact HB.out))); (case aF => exact (fun k_ hk => ⟨Kd.fresh' (Kd.R_lt (by (with_reducible repeat (first | apply Kd.R_alloc | apply Kd.R_drewN | apply Kd.R_drew)); exact HO_12.out)) k_ hk, Kd.fresh' (Kd.R_lt (by (with_reducible repeat (first | apply Kd.R_alloc | apply Kd.R_drewN | apply Kd.R_drew)); exact HO_13.out)) k_ hk, Kd.fresh' (Kd.R_lt (by (with_reducible repeat (first | apply Kd.R_alloc | apply Kd.R_drewN | apply Kd.R_drew)); exact HO_14.out)) k_ hk, Kd.freshB (g := gb164) (o := .cells #[.int .i64 a1] 3 (0, 0)) (by (with_reducible repeat (first | refine blk_drewN ?_ _ | refine blk_drew ?_ | refine blk_alloc ?_ _)); exact BK164.out) k_ hk, Kd.freshB (g := gb167) (o := .cells #[.int .i64 (wrap64 (x168000_3 + ((rd_T43 y169 x15_3).f0))), .int .i64 (wrap64 (x168001_3 + ((rd_T43 y169 x15_3).f1)))] 43 (0, 0)) (by (with_reducible repeat (first | refine blk_drewN ?_ _ | refine blk_drew ?_ | refine blk_alloc ?_ _)); exact BK167.out) k_ hk, Kd.freshB (g := gb168) (o := .cells #[.int .i64 (Int.tmod x7_16 a0_0), .int .i64 (wrap64 (Int.tdiv x7_16 a0_0))] 43 (0, 0)) (by (with_reducible repeat (first | refine blk_drewN ?_ _ | refine blk_drew ?_ | refine blk_alloc ?_ _)); exact BK168.out) k_ hk⟩)); (case aO => exact (by (with_reducible repeat (first | apply Kd.R_alloc | apply Kd.R_drewN | apply Kd.R_drew)); exact HO_16.out)); (case aS => exact (below_size (by repeat (first | (with_reducible first | exact HB.out | apply below_alloc | apply pw_below_drewN | apply below_drew1 | refine below_set ?_ GE163.out | refine below_set ?_ GE164.out | refine below_set ?_ GE167.out | refine below_set ?_ GE168.out) | exact HB.out)))); (case aL => have := LMc97.out; omega); intro v190 w102 ho hb hg hat; rw [← Ny189.out] at ho; have n0_ := Aside0.mk (Kd.R_after (ok := (fun k_ => some k_ ≠ (.slice (some ad183) y172.length co89 : Value).ownBlock ∧ some k_ ≠ (.slice (some ad186) y175.length co92 : Value).ownBlock ∧ k_ ≠ gb164 ∧ k_ ≠ gb167 ∧ k_ ≠ gb168)) (by (with_reducible repeat (first | apply Kd.R_alloc | apply Kd.R_drewN | apply Kd.R_drew)); exact Kd.R_mono HO_12.out (fun _ hk => ⟨⟨hk.1, ⟨hk.2.1, ⟨hk.2.2.2.1, ⟨hk.2.2.2.2.1, hk.2.2.2.2.2⟩⟩⟩⟩, hk.2.2.1⟩)) hg hat); have n1_ := Aside0.mk (Kd.R_after (ok := (fun k_ => some k_ ≠ (.slice (some ad181) y169.length co74 : Value).ownBlock ∧ some k_ ≠ (.slice (some ad186) y175.length co92 : Value).ownBlock ∧ k_ ≠ gb164 ∧ k_ ≠ gb167 ∧ k_ ≠ gb168)) (by (with_reducible repeat (first | apply Kd.R_alloc | apply Kd.R_drewN | apply Kd.R_drew)); exact Kd.R_mono HO_13.out (fun _ hk => ⟨⟨hk.1, ⟨hk.2.1, ⟨hk.2.2.2.1, ⟨hk.2.2.2.2.1, hk.2.2.2.2.2⟩⟩⟩⟩, hk.2.2.1⟩)) hg hat); have n2_ := Aside0.mk (Kd.R_after (ok := (fun k_ => some k_ ≠ (.slice (some ad181) y169.length co74 : Value).ownBlock ∧ some k_ ≠ (.slice (some ad183) y172.length co89 : Value).ownBlock ∧ k_ ≠ gb164 ∧ k_ ≠ gb167 ∧ k_ ≠ gb168)) (by (with_reducible repeat (first | apply Kd.R_alloc | apply Kd.R_drewN | apply Kd.R_drew)); exact Kd.R_mono HO_14.out (fun _ hk => ⟨⟨hk.1, ⟨hk.2.1, ⟨hk.2.2.2.1, ⟨hk.2.2.2.2.1, hk.2.2.2.2.2⟩⟩⟩⟩, hk.2.2.1⟩)) hg hat); have n3_ := Aside0.mk (blk_grown (g := gb163) (o := .cells #[.int .i64 a0_0, .int .i64 a0_1, .slice A0_2 l0_2.length c0_2] 26 (0, 0)) (by (with_reducible repeat (first | refine blk_drewN ?_ _ | refine blk_drew ?_ | refine blk_alloc ?_ _)); exact BK163.out) hg (Kd.R_ne HO_16.out BK163.out (by decide))); have n4_ := Aside0.mk (blk_grown (g := gb164) (o := .cells #[.int .i64 a1] 3 (0, 0)) (by (with_reducible repeat (first | refine blk_drewN ?_ _ | refine blk_drew ?_ | refine blk_alloc ?_ _)); exact BK164.out) hg (Kd.R_away HO_16.out (fun _ hk => hk.2.2.2.1))); have n5_ := Aside0.mk (blk_grown (g := gb167) (o := .cells #[.int .i64 (wrap64 (x168000_3 + ((rd_T43 y169 x15_3).f0))), .int .i64 (wrap64 (x168001_3 + ((rd_T43 y169 x15_3).f1)))] 43 (0, 0)) (by (with_reducible repeat (first | refine blk_drewN ?_ _ | refine blk_drew ?_ | refine blk_alloc ?_ _)); exact BK167.out) hg (Kd.R_away HO_16.out (fun _ hk => hk.2.2.2.2.1))); have n6_ := Aside0.mk (blk_grown (g := gb168) (o := .cells #[.int .i64 (Int.tmod x7_16 a0_0), .int .i64 (wrap64 (Int.tdiv x7_16 a0_0))] 43 (0, 0)) (by (with_reducible repeat (first | refine blk_drewN ?_ _ | refine blk_drew ?_ | refine blk_alloc ?_ _)); exact BK168.out) hg (Kd.R_away HO_16.out (fun _ hk => hk.2.2.2.2.2))); have n7_ := Aside0.mk (hb); have n8_ := Aside0.mk (ho); clear HO_12; clear HO_13; clear HO_14; clear BK163; clear BK164; clear BK167; clear BK168; clear HB; clear HO_16; have HO_12 := n0_; have HO_13 := n1_; have HO_14 := n2_; have BK163 := n3_; have BK164 := n4_; have BK167 := n5_; have BK168 := n6_; have HB := n7_; have HO191 := n8_; clear n0_ n1_ n2_ n3_ n4_ n5_ n6_ n7_ n8_; clear ho hb hg hat))
                                          go_meet
                                          case rel => exact ⟨_, (Int.tmod (wrap64 (x15_3 + 3)) 4), (y189), (by first | rfl | (simp; done) | (simp [*]; done)), H', ⟨by have := HJ4.out; have := HJ16.out; have := HK3.out; first | omega | exact Nat.le_refl _⟩, ⟨by (with_reducible repeat (first | apply Kd.R_alloc | apply Kd.R_drewN | apply Kd.R_drew)); exact Kd.R_mono HO_12.out (fun _ hk => ⟨hk.1.1, ⟨hk.1.2.1, ⟨hk.2, ⟨hk.1.2.2.1, ⟨hk.1.2.2.2.1, hk.1.2.2.2.2⟩⟩⟩⟩⟩)⟩, ⟨by (with_reducible repeat (first | apply Kd.R_alloc | apply Kd.R_drewN | apply Kd.R_drew)); exact Kd.R_mono HO_13.out (fun _ hk => ⟨hk.1.1, ⟨hk.1.2.1, ⟨hk.2, ⟨hk.1.2.2.1, ⟨hk.1.2.2.2.1, hk.1.2.2.2.2⟩⟩⟩⟩⟩)⟩, ⟨by (with_reducible repeat (first | apply Kd.R_alloc | apply Kd.R_drewN | apply Kd.R_drew)); exact Kd.R_mono HO_14.out (fun _ hk => ⟨hk.1.1, ⟨hk.1.2.1, ⟨hk.2, ⟨hk.1.2.2.1, ⟨hk.1.2.2.2.1, hk.1.2.2.2.2⟩⟩⟩⟩⟩)⟩, ⟨by (with_reducible repeat (first | apply Kd.R_alloc | apply Kd.R_drewN | apply Kd.R_drew)); exact HO191.out⟩, ⟨by (with_reducible repeat (first | refine blk_drewN ?_ _ | refine blk_drew ?_ | refine blk_alloc ?_ _)); exact BK163.out⟩, ⟨by (with_reducible repeat (first | refine blk_drewN ?_ _ | refine blk_drew ?_ | refine blk_alloc ?_ _)); exact BK164.out⟩, ⟨by (with_reducible repeat (first | refine blk_drewN ?_ _ | refine blk_drew ?_ | refine blk_alloc ?_ _)); exact BK167.out⟩, ⟨by (with_reducible repeat (first | refine blk_drewN ?_ _ | refine blk_drew ?_ | refine blk_alloc ?_ _)); exact BK168.out⟩, ⟨by repeat (first | (with_reducible first | exact HB.out | apply below_alloc | apply pw_below_drewN | apply below_drew1 | refine below_set ?_ GE163.out | refine below_set ?_ GE164.out | refine below_set ?_ GE167.out | refine below_set ?_ GE168.out) | exact HB.out)⟩⟩
                                        · rw [if_neg c97] at H
                                          exact absurd H (by simp)
                                      · replace c96 := Bool.eq_false_iff.mpr c96
                                        subst c96
                                        have H1 : (impl_Contour.j4 k3 y169 y172 y175 x15_3 x16_3 a0_0 a0_1 l0_2 a1 0 (wrap64 (x168000_3 + ((rd_T43 y169 x15_3).f0))) (wrap64 (x168001_3 + ((rd_T43 y169 x15_3).f1))) (Int.tmod x7_16 a0_0) (wrap64 (Int.tdiv x7_16 a0_0))) = some (r1, r2) := by rw [if_neg (show ¬ (false = true) by decide)] at H; exact H
                                        clear H
                                        have H := H1
                                        clear H1
                                        have H' := Aside0.mk H
                                        clear H
                                        go_wp2
                                        go_meet
                                        case rel => exact ⟨_, (x15_3), (x16_3), (by first | rfl | (simp; done) | (simp [*]; done)), H', ⟨by have := HJ4.out; have := HJ16.out; have := HK3.out; first | omega | exact Nat.le_refl _⟩, ⟨by (with_reducible repeat (first | apply Kd.R_alloc | apply Kd.R_drewN | apply Kd.R_drew)); exact HO_12.out⟩, ⟨by (with_reducible repeat (first | apply Kd.R_alloc | apply Kd.R_drewN | apply Kd.R_drew)); exact HO_13.out⟩, ⟨by (with_reducible repeat (first | apply Kd.R_alloc | apply Kd.R_drewN | apply Kd.R_drew)); exact HO_14.out⟩, ⟨by (with_reducible repeat (first | apply Kd.R_alloc | apply Kd.R_drewN | apply Kd.R_drew)); exact HO_16.out⟩, ⟨by (with_reducible repeat (first | refine blk_drewN ?_ _ | refine blk_drew ?_ | refine blk_alloc ?_ _)); exact BK163.out⟩, ⟨by (with_reducible repeat (first | refine blk_drewN ?_ _ | refine blk_drew ?_ | refine blk_alloc ?_ _)); exact BK164.out⟩, ⟨by (with_reducible repeat (first | refine blk_drewN ?_ _ | refine blk_drew ?_ | refine blk_alloc ?_ _)); exact BK167.out⟩, ⟨by (with_reducible repeat (first | refine blk_drewN ?_ _ | refine blk_drew ?_ | refine blk_alloc ?_ _)); exact BK168.out⟩, ⟨by repeat (first | (with_reducible first | exact HB.out | apply below_alloc | apply pw_below_drewN | apply below_drew1 | refine below_set ?_ GE163.out | refine below_set ?_ GE164.out | refine below_set ?_ GE167.out | refine below_set ?_ GE168.out) | exact HB.out)⟩⟩
                                    case rest =>
                                      clear HC95
                                      try clear c1
                                      try clear p1
                                      try clear q1
                                      try clear hx1
                                      try clear p2
                                      try clear c5
                                      try clear p6
                                      try clear c7
                                      try clear c8
                                      try clear c9
                                      try clear c10
                                      try clear p18
                                      try clear q18
                                      try clear hx18
                                      try clear c53
                                      try clear p64
                                      try clear c77
                                      try clear c78
                                      try clear c79
                                      try clear c81
                                      try clear c82
                                      try clear c84
                                      try clear c94
                                      try clear c96
                                      try clear c97
                                      try clear c98
                                      try clear c99
                                      try clear c100
                                      try clear hcz101_0
                                      try clear hcz101_1
                                      try clear hcz80_0
                                      try clear hcz80_1
                                      try clear hcz83_0
                                      try clear hcz83_1
                                      try clear hcz85_0
                                      try clear hcz85_1
                                      try clear hcz85_2
                                      try clear hcz86_0
                                      try clear hcz86_1
                                      try clear hfz101_0
                                      try clear hfz101_1
                                      try clear hfz80_0
                                      try clear hfz80_1
                                      try clear hfz83_0
                                      try clear hfz83_1
                                      try clear hfz85_0
                                      try clear hfz85_1
                                      try clear hfz85_2
                                      try clear hfz86_0
                                      try clear hfz86_1
                                      try clear hx183_0
                                      try clear hx183_1
                                      try clear hx184_0
                                      try clear hx184_1
                                      try clear hx186_0
                                      try clear hx186_1
                                      try clear hx187_0
                                      try clear hx187_1
                                      try clear p183
                                      try clear p184
                                      try clear p186
                                      try clear p187
                                      try clear q183
                                      try clear q184
                                      try clear q186
                                      try clear q187
                                      obtain ⟨kq, x15_94, x16_94, rfl, HA, HJ94, HO_12, HO_13, HO_14, HO_16, BK163, BK164, BK167, BK168, HB⟩ := hcut
                                      cases kq with
                                      | zero => exact absurd HA.out (by simp [impl_Contour.j4])
                                      | succ kj94 =>
                                        have H := HA.out
                                        clear HA
                                        simp only [impl_Contour.j4] at H
                                        have H' := Aside0.mk H
                                        clear H
                                        go_wp2
                                        go_meet
                                        case rel => exact ⟨_, (x15_94), (x16_94), (by first | rfl | (simp; done) | (simp [*]; done)), H', ⟨by have := HJ4.out; have := HJ16.out; have := HK3.out; have := HJ94.out; first | omega | exact Nat.le_refl _⟩, ⟨by (with_reducible repeat (first | apply Kd.R_alloc | apply Kd.R_drewN | apply Kd.R_drew)); exact HO_12.out⟩, ⟨by (with_reducible repeat (first | apply Kd.R_alloc | apply Kd.R_drewN | apply Kd.R_drew)); exact HO_13.out⟩, ⟨by (with_reducible repeat (first | apply Kd.R_alloc | apply Kd.R_drewN | apply Kd.R_drew)); exact HO_14.out⟩, ⟨by (with_reducible repeat (first | apply Kd.R_alloc | apply Kd.R_drewN | apply Kd.R_drew)); exact HO_16.out⟩, ⟨by (with_reducible repeat (first | refine blk_drewN ?_ _ | refine blk_drew ?_ | refine blk_alloc ?_ _)); exact BK163.out⟩, ⟨by (with_reducible repeat (first | refine blk_drewN ?_ _ | refine blk_drew ?_ | refine blk_alloc ?_ _)); exact BK164.out⟩, ⟨by (with_reducible repeat (first | refine blk_drewN ?_ _ | refine blk_drew ?_ | refine blk_alloc ?_ _)); exact BK167.out⟩, ⟨by (with_reducible repeat (first | refine blk_drewN ?_ _ | refine blk_drew ?_ | refine blk_alloc ?_ _)); exact BK168.out⟩, ⟨by repeat (first | (with_reducible first | exact HB.out | apply below_alloc | apply pw_below_drewN | apply below_drew1 | refine below_set ?_ GE163.out | refine below_set ?_ GE164.out | refine below_set ?_ GE167.out | refine below_set ?_ GE168.out) | exact HB.out)⟩⟩
                                  · replace c94 := Bool.eq_false_iff.mpr c94
                                    subst c94
                                    have H1 : (if x16_3.length < 8796093022208 then (impl_Contour.j5 k3 y169 y172 y175 (Int.tmod (wrap64 (x15_3 + 1)) 4) (x16_3 ++ [(⟨wrap64 (x168000_3 + ((rd_T43 y169 x15_3).f0)), wrap64 (x168001_3 + ((rd_T43 y169 x15_3).f1))⟩ : S43)]) a0_0 a0_1 l0_2 a1 0 (wrap64 (x168000_3 + ((rd_T43 y169 x15_3).f0))) (wrap64 (x168001_3 + ((rd_T43 y169 x15_3).f1))) (Int.tmod x7_16 a0_0) (wrap64 (Int.tdiv x7_16 a0_0))) else (none)) = some (r1, r2) := by rw [if_neg (show ¬ (false = true) by decide)] at H; exact H
                                    clear H
                                    have H := H1
                                    clear H1
                                    by_cases c103 : x16_3.length < 8796093022208
                                    · rw [if_pos c103] at H
                                      have LMc103 := Aside0.mk c103
                                      clear c103
                                      obtain ⟨y192, hy192⟩ : ∃ y_ : List (S43), y_ = (x16_3 ++ [(⟨wrap64 (x168000_3 + ((rd_T43 y169 x15_3).f0)), wrap64 (x168001_3 + ((rd_T43 y169 x15_3).f1))⟩ : S43)]) := ⟨_, rfl⟩
                                      replace H : (impl_Contour.j5 k3 y169 y172 y175 (Int.tmod (wrap64 (x15_3 + 1)) 4) y192 a0_0 a0_1 l0_2 a1 0 (wrap64 (x168000_3 + ((rd_T43 y169 x15_3).f0))) (wrap64 (x168001_3 + ((rd_T43 y169 x15_3).f1))) (Int.tmod x7_16 a0_0) (wrap64 (Int.tdiv x7_16 a0_0))) = some (r1, r2) := by first | (rw [hy192]; with_reducible exact H) | (have H2_ := (Option.bind_some _ _).symm.trans H; rw [hy192]; with_reducible exact H2_) | (have H2_ := (Option.bind_some _ _).symm.trans H; with_reducible exact H2_) | with_reducible exact H | (rw [hy192]; exact H) | exact H
                                      have Ny192 := Aside0.mk hy192
                                      clear hy192
                                      have H' := Aside0.mk H
                                      clear H
                                      have hnb104 := NB167_163.out
                                      have hnc104 := NB163_167.out
                                      have hnb105 := NB167_164.out
                                      have hnc105 := NB164_167.out
                                      have hnb106 := NB167_168.out
                                      have hnc106 := NB168_167.out
                                      have hcz107_0 : w93.cell? ⟨gb167, 0, none⟩ = some (.int .i64 (wrap64 (x168000_3 + ((rd_T43 y169 x15_3).f0)))) := (blk_cell BK167.out 0).trans rfl
                                      have hcz107_1 : w93.cell? ⟨gb167, 1, none⟩ = some (.int .i64 (wrap64 (x168001_3 + ((rd_T43 y169 x15_3).f1)))) := (blk_cell BK167.out 1).trans rfl
                                      have hfz107_0 := blk_frozen BK167.out 0
                                      have hfz107_1 := blk_frozen BK167.out 1
                                      go_wp2_with (first | ((with_reducible refine gate_builtin (b := .append) (xs := #[.tmp 128, .tmp 130]) rfl ?_); at_builtin; refine Kd.R_append k43 (w0 := w) w.heap.size rfl (.tmp 128) (.tmp 130) 33 43 (.agg #[(.int .i64 0), (.int .i64 0)]) 16 rfl Try.underlying33 info43 rfl (by decide) (by omega) u16 x16_3 (⟨wrap64 (x168000_3 + ((rd_T43 y169 x15_3).f0)), wrap64 (x168001_3 + ((rd_T43 y169 x15_3).f1))⟩ : S43) [.int .i64 (wrap64 (x168000_3 + ((rd_T43 y169 x15_3).f0))), .int .i64 (wrap64 (x168001_3 + ((rd_T43 y169 x15_3).f1)))] (fun k_ => some k_ ≠ (.slice (some ad181) y169.length co74 : Value).ownBlock ∧ some k_ ≠ (.slice (some ad183) y172.length co89 : Value).ownBlock ∧ some k_ ≠ (.slice (some ad186) y175.length co92 : Value).ownBlock ∧ k_ ≠ gb164 ∧ k_ ≠ gb167 ∧ k_ ≠ gb168) (fun _ => False) rfl rfl ?aP (fun _ hk => hk.elim) ?aF ?aO ?aB ?aS ?aL ?_; (case aP => exact k43_mkM _ _ _ (⟨wrap64 (x168000_3 + ((rd_T43 y169 x15_3).f0)), wrap64 (x168001_3 + ((rd_T43 y169 x15_3).f1))⟩ : S43)); (case aB => exact (by repeat (first | (with_reducible first | exact HB.out | apply below_alloc | apply pw_below_drewN | apply below_drew1 | refine below_set ?_ GE163.out | refine below_set ?_ GE164.out | refine below_set ?_ GE167.out | refine below_set ?_ GE168.out) | exact HB.out))); (case aF => exact (fun k_ hk => ⟨Kd.fresh' (Kd.R_lt (by (with_reducible repeat (first | apply Kd.R_alloc | apply Kd.R_drewN | apply Kd.R_drew)); exact HO_12.out)) k_ hk, Kd.fresh' (Kd.R_lt (by (with_reducible repeat (first | apply Kd.R_alloc | apply Kd.R_drewN | apply Kd.R_drew)); exact HO_13.out)) k_ hk, Kd.fresh' (Kd.R_lt (by (with_reducible repeat (first | apply Kd.R_alloc | apply Kd.R_drewN | apply Kd.R_drew)); exact HO_14.out)) k_ hk, Kd.freshB (g := gb164) (o := .cells #[.int .i64 a1] 3 (0, 0)) (by (with_reducible repeat (first | refine blk_drewN ?_ _ | refine blk_drew ?_ | refine blk_alloc ?_ _)); exact BK164.out) k_ hk, Kd.freshB (g := gb167) (o := .cells #[.int .i64 (wrap64 (x168000_3 + ((rd_T43 y169 x15_3).f0))), .int .i64 (wrap64 (x168001_3 + ((rd_T43 y169 x15_3).f1)))] 43 (0, 0)) (by (with_reducible repeat (first | refine blk_drewN ?_ _ | refine blk_drew ?_ | refine blk_alloc ?_ _)); exact BK167.out) k_ hk, Kd.freshB (g := gb168) (o := .cells #[.int .i64 (Int.tmod x7_16 a0_0), .int .i64 (wrap64 (Int.tdiv x7_16 a0_0))] 43 (0, 0)) (by (with_reducible repeat (first | refine blk_drewN ?_ _ | refine blk_drew ?_ | refine blk_alloc ?_ _)); exact BK168.out) k_ hk⟩)); (case aO => exact (by (with_reducible repeat (first | apply Kd.R_alloc | apply Kd.R_drewN | apply Kd.R_drew)); exact HO_16.out)); (case aS => exact (below_size (by repeat (first | (with_reducible first | exact HB.out | apply below_alloc | apply pw_below_drewN | apply below_drew1 | refine below_set ?_ GE163.out | refine below_set ?_ GE164.out | refine below_set ?_ GE167.out | refine below_set ?_ GE168.out) | exact HB.out)))); (case aL => have := LMc103.out; omega); intro v193 w108 ho hb hg hat; rw [← Ny192.out] at ho; have n0_ := Aside0.mk (Kd.R_after (ok := (fun k_ => some k_ ≠ (.slice (some ad183) y172.length co89 : Value).ownBlock ∧ some k_ ≠ (.slice (some ad186) y175.length co92 : Value).ownBlock ∧ k_ ≠ gb164 ∧ k_ ≠ gb167 ∧ k_ ≠ gb168)) (by (with_reducible repeat (first | apply Kd.R_alloc | apply Kd.R_drewN | apply Kd.R_drew)); exact Kd.R_mono HO_12.out (fun _ hk => ⟨⟨hk.1, ⟨hk.2.1, ⟨hk.2.2.2.1, ⟨hk.2.2.2.2.1, hk.2.2.2.2.2⟩⟩⟩⟩, hk.2.2.1⟩)) hg hat); have n1_ := Aside0.mk (Kd.R_after (ok := (fun k_ => some k_ ≠ (.slice (some ad181) y169.length co74 : Value).ownBlock ∧ some k_ ≠ (.slice (some ad186) y175.length co92 : Value).ownBlock ∧ k_ ≠ gb164 ∧ k_ ≠ gb167 ∧ k_ ≠ gb168)) (by (with_reducible repeat (first | apply Kd.R_alloc | apply Kd.R_drewN | apply Kd.R_drew)); exact Kd.R_mono HO_13.out (fun _ hk => ⟨⟨hk.1, ⟨hk.2.1, ⟨hk.2.2.2.1, ⟨hk.2.2.2.2.1, hk.2.2.2.2.2⟩⟩⟩⟩, hk.2.2.1⟩)) hg hat); have n2_ := Aside0.mk (Kd.R_after (ok := (fun k_ => some k_ ≠ (.slice (some ad181) y169.length co74 : Value).ownBlock ∧ some k_ ≠ (.slice (some ad183) y172.length co89 : Value).ownBlock ∧ k_ ≠ gb164 ∧ k_ ≠ gb167 ∧ k_ ≠ gb168)) (by (with_reducible repeat (first | apply Kd.R_alloc | apply Kd.R_drewN | apply Kd.R_drew)); exact Kd.R_mono HO_14.out (fun _ hk => ⟨⟨hk.1, ⟨hk.2.1, ⟨hk.2.2.2.1, ⟨hk.2.2.2.2.1, hk.2.2.2.2.2⟩⟩⟩⟩, hk.2.2.1⟩)) hg hat); have n3_ := Aside0.mk (blk_grown (g := gb163) (o := .cells #[.int .i64 a0_0, .int .i64 a0_1, .slice A0_2 l0_2.length c0_2] 26 (0, 0)) (by (with_reducible repeat (first | refine blk_drewN ?_ _ | refine blk_drew ?_ | refine blk_alloc ?_ _)); exact BK163.out) hg (Kd.R_ne HO_16.out BK163.out (by decide))); have n4_ := Aside0.mk (blk_grown (g := gb164) (o := .cells #[.int .i64 a1] 3 (0, 0)) (by (with_reducible repeat (first | refine blk_drewN ?_ _ | refine blk_drew ?_ | refine blk_alloc ?_ _)); exact BK164.out) hg (Kd.R_away HO_16.out (fun _ hk => hk.2.2.2.1))); have n5_ := Aside0.mk (blk_grown (g := gb167) (o := .cells #[.int .i64 (wrap64 (x168000_3 + ((rd_T43 y169 x15_3).f0))), .int .i64 (wrap64 (x168001_3 + ((rd_T43 y169 x15_3).f1)))] 43 (0, 0)) (by (with_reducible repeat (first | refine blk_drewN ?_ _ | refine blk_drew ?_ | refine blk_alloc ?_ _)); exact BK167.out) hg (Kd.R_away HO_16.out (fun _ hk => hk.2.2.2.2.1))); have n6_ := Aside0.mk (blk_grown (g := gb168) (o := .cells #[.int .i64 (Int.tmod x7_16 a0_0), .int .i64 (wrap64 (Int.tdiv x7_16 a0_0))] 43 (0, 0)) (by (with_reducible repeat (first | refine blk_drewN ?_ _ | refine blk_drew ?_ | refine blk_alloc ?_ _)); exact BK168.out) hg (Kd.R_away HO_16.out (fun _ hk => hk.2.2.2.2.2))); have n7_ := Aside0.mk (hb); have n8_ := Aside0.mk (ho); clear HO_12; clear HO_13; clear HO_14; clear BK163; clear BK164; clear BK167; clear BK168; clear HB; clear HO_16; have HO_12 := n0_; have HO_13 := n1_; have HO_14 := n2_; have BK163 := n3_; have BK164 := n4_; have BK167 := n5_; have BK168 := n6_; have HB := n7_; have HO194 := n8_; clear n0_ n1_ n2_ n3_ n4_ n5_ n6_ n7_ n8_; clear ho hb hg hat))
                                      go_meet
                                      case rel => exact ⟨_, (Int.tmod (wrap64 (x15_3 + 1)) 4), (y192), (by first | rfl | (simp; done) | (simp [*]; done)), H', ⟨by have := HJ4.out; have := HJ16.out; have := HK3.out; first | omega | exact Nat.le_refl _⟩, ⟨by (with_reducible repeat (first | apply Kd.R_alloc | apply Kd.R_drewN | apply Kd.R_drew)); exact Kd.R_mono HO_12.out (fun _ hk => ⟨hk.1.1, ⟨hk.1.2.1, ⟨hk.2, ⟨hk.1.2.2.1, ⟨hk.1.2.2.2.1, hk.1.2.2.2.2⟩⟩⟩⟩⟩)⟩, ⟨by (with_reducible repeat (first | apply Kd.R_alloc | apply Kd.R_drewN | apply Kd.R_drew)); exact Kd.R_mono HO_13.out (fun _ hk => ⟨hk.1.1, ⟨hk.1.2.1, ⟨hk.2, ⟨hk.1.2.2.1, ⟨hk.1.2.2.2.1, hk.1.2.2.2.2⟩⟩⟩⟩⟩)⟩, ⟨by (with_reducible repeat (first | apply Kd.R_alloc | apply Kd.R_drewN | apply Kd.R_drew)); exact Kd.R_mono HO_14.out (fun _ hk => ⟨hk.1.1, ⟨hk.1.2.1, ⟨hk.2, ⟨hk.1.2.2.1, ⟨hk.1.2.2.2.1, hk.1.2.2.2.2⟩⟩⟩⟩⟩)⟩, ⟨by (with_reducible repeat (first | apply Kd.R_alloc | apply Kd.R_drewN | apply Kd.R_drew)); exact HO194.out⟩, ⟨by (with_reducible repeat (first | refine blk_drewN ?_ _ | refine blk_drew ?_ | refine blk_alloc ?_ _)); exact BK163.out⟩, ⟨by (with_reducible repeat (first | refine blk_drewN ?_ _ | refine blk_drew ?_ | refine blk_alloc ?_ _)); exact BK164.out⟩, ⟨by (with_reducible repeat (first | refine blk_drewN ?_ _ | refine blk_drew ?_ | refine blk_alloc ?_ _)); exact BK167.out⟩, ⟨by (with_reducible repeat (first | refine blk_drewN ?_ _ | refine blk_drew ?_ | refine blk_alloc ?_ _)); exact BK168.out⟩, ⟨by repeat (first | (with_reducible first | exact HB.out | apply below_alloc | apply pw_below_drewN | apply below_drew1 | refine below_set ?_ GE163.out | refine below_set ?_ GE164.out | refine below_set ?_ GE167.out | refine below_set ?_ GE168.out) | exact HB.out)⟩⟩
                                    · rw [if_neg c103] at H
                                      exact absurd H (by simp)
                                case rest =>
                                  clear HC72
                                  try clear c1
                                  try clear p1
                                  try clear q1
                                  try clear hx1
                                  try clear p2
                                  try clear c5
                                  try clear p6
                                  try clear c7
                                  try clear c8
                                  try clear c9
                                  try clear c10
                                  try clear p18
                                  try clear q18
                                  try clear hx18
                                  try clear c53
                                  try clear p64
                                  try clear c77
                                  try clear c78
                                  try clear c79
                                  try clear c81
                                  try clear c82
                                  try clear c84
                                  try clear c94
                                  try clear c96
                                  try clear c97
                                  try clear c98
                                  try clear c99
                                  try clear c100
                                  try clear c103
                                  try clear c104
                                  try clear c105
                                  try clear c106
                                  try clear hcz101_0
                                  try clear hcz101_1
                                  try clear hcz107_0
                                  try clear hcz107_1
                                  try clear hcz80_0
                                  try clear hcz80_1
                                  try clear hcz83_0
                                  try clear hcz83_1
                                  try clear hcz85_0
                                  try clear hcz85_1
                                  try clear hcz85_2
                                  try clear hcz86_0
                                  try clear hcz86_1
                                  try clear hfz101_0
                                  try clear hfz101_1
                                  try clear hfz107_0
                                  try clear hfz107_1
                                  try clear hfz80_0
                                  try clear hfz80_1
                                  try clear hfz83_0
                                  try clear hfz83_1
                                  try clear hfz85_0
                                  try clear hfz85_1
                                  try clear hfz85_2
                                  try clear hfz86_0
                                  try clear hfz86_1
                                  try clear hx183_0
                                  try clear hx183_1
                                  try clear hx184_0
                                  try clear hx184_1
                                  try clear hx186_0
                                  try clear hx186_1
                                  try clear hx187_0
                                  try clear hx187_1
                                  try clear p1
                                  try clear p18
                                  try clear p183
                                  try clear p184
                                  try clear p186
                                  try clear p187
                                  try clear p2
                                  try clear p6
                                  try clear p64
                                  try clear q1
                                  try clear q18
                                  try clear q183
                                  try clear q184
                                  try clear q186
                                  try clear q187
                                  obtain ⟨kq, x15_71, x16_71, rfl, HA, HJ71, HO_12, HO_13, HO_14, HO_16, BK163, BK164, BK167, BK168, HB⟩ := hcut
                                  cases kq with
                                  | zero => exact absurd HA.out (by simp [impl_Contour.j5])
                                  | succ kj71 =>
                                    have H := HA.out
                                    clear HA
                                    simp only [impl_Contour.j5] at H
                                    have H' := Aside0.mk H
                                    clear H
                                    go_wp2
                                    go_roundg kj71
                                    case measure => have := HJ4.out; have := HJ16.out; have := HK3.out; have := HJ71.out; omega
                                    case rel => exact ⟨(x15_71), (x16_71), ((wrap64 (x168000_3 + ((rd_T43 y169 x15_3).f0)))), ((wrap64 (x168001_3 + ((rd_T43 y169 x15_3).f1)))), (by first | rfl | (simp; done) | (simp [*]; done)), H', ⟨by have := HJ4.out; have := HJ16.out; have := HK3.out; have := HJ71.out; omega⟩, ⟨by (with_reducible repeat (first | apply Kd.R_alloc | apply Kd.R_drewN | apply Kd.R_drew)); exact HO_12.out⟩, ⟨by (with_reducible repeat (first | apply Kd.R_alloc | apply Kd.R_drewN | apply Kd.R_drew)); exact HO_13.out⟩, ⟨by (with_reducible repeat (first | apply Kd.R_alloc | apply Kd.R_drewN | apply Kd.R_drew)); exact HO_14.out⟩, ⟨by (with_reducible repeat (first | apply Kd.R_alloc | apply Kd.R_drewN | apply Kd.R_drew)); exact HO_16.out⟩, ⟨by (with_reducible repeat (first | refine blk_drewN ?_ _ | refine blk_drew ?_ | refine blk_alloc ?_ _)); exact BK163.out⟩, ⟨by (with_reducible repeat (first | refine blk_drewN ?_ _ | refine blk_drew ?_ | refine blk_alloc ?_ _)); exact BK164.out⟩, ⟨by (with_reducible repeat (first | refine blk_drewN ?_ _ | refine blk_drew ?_ | refine blk_alloc ?_ _)); exact BK167.out⟩, ⟨by (with_reducible repeat (first | refine blk_drewN ?_ _ | refine blk_drew ?_ | refine blk_alloc ?_ _)); exact BK168.out⟩, ⟨by repeat (first | (with_reducible first | exact HB.out | apply below_alloc | apply pw_below_drewN | apply below_drew1 | refine below_set ?_ GE163.out | refine below_set ?_ GE164.out | refine below_set ?_ GE167.out | refine below_set ?_ GE168.out) | exact HB.out)⟩⟩
                              · rw [if_neg c70] at H
                                exact absurd H (by simp)
                            · rw [if_neg c68] at H
                              exact absurd H (by simp)
                        · rw [if_neg c52] at H
                          exact absurd H (by simp)
                      · rw [if_neg c51] at H
                        exact absurd H (by simp)
  · replace c4 := Bool.eq_false_iff.mpr c4
    subst c4
    have H1 : (some (([] : List (S43)), 1)) = some (r1, r2) := by rw [if_neg (show ¬ (false = true) by decide)] at H; exact H
    clear H
    have H := H1
    clear H1
    simp only [Option.some.injEq, Prod.mk.injEq] at H
    obtain ⟨rfl, rfl⟩ := H
    go_enter Try.func17, Try.ntmps17
    go_wp2_with (first | ((with_reducible refine gate_dst (N := 2) rfl ?_); refine box_event ?hg (N := 2) ?hd (cs := #[.int .i64 a0_0, .int .i64 a0_1, .slice A0_2 l0_2.length c0_2]) (t := 26) ?hr ?_; (case hd => rfl); (case hg => rfl); (case hr => first | (go_simp; done) | (go_simp; rfl)); intro gb163 hg w109 hbox hb; have n0_ := Aside0.mk (below_step (by repeat (first | (with_reducible first | exact HB.out | apply below_alloc | apply pw_below_drewN | apply below_drew1) | exact HB.out)) hb); have n1_ := Aside0.mk (hbox); have n2_ := Aside0.mk ((by rw [hg]; exact (below_size (by repeat (first | (with_reducible first | exact HB.out | apply below_alloc | apply pw_below_drewN | apply below_drew1) | exact HB.out))) : w.heap.size ≤ gb163)); have n3_ := Aside0.mk ((by rw [hg]; exact (below_size (by repeat (first | (with_reducible first | exact HB.out | apply below_alloc | apply pw_below_drewN | apply below_drew1) | exact HB.out))) : w.heap.size ≤ gb163)); clear HB; have HB := n0_; have BK163 := n1_; have GW163 := n2_; have GE163 := n3_; clear n0_ n1_ n2_ n3_; clear hb hbox hg) | ((with_reducible refine gate_dst (N := 3) rfl ?_); refine box_event ?hg (N := 3) ?hd (cs := #[.int .i64 a1]) (t := 3) ?hr ?_; (case hd => rfl); (case hg => rfl); (case hr => first | (go_simp; done) | (go_simp; rfl)); intro gb164 hg w110 hbox hb; have n0_ := Aside0.mk (blk_below (g := gb163) (o := .cells #[.int .i64 a0_0, .int .i64 a0_1, .slice A0_2 l0_2.length c0_2] 26 (0, 0)) (by (with_reducible repeat (first | refine blk_drewN ?_ _ | refine blk_drew ?_ | refine blk_alloc ?_ _)); exact BK163.out) hb); have n1_ := Aside0.mk (below_step (by repeat (first | (with_reducible first | exact HB.out | apply below_alloc | apply pw_below_drewN | apply below_drew1 | refine below_set ?_ GE163.out) | exact HB.out)) hb); have n2_ := Aside0.mk (hbox); have n3_ := Aside0.mk ((by rw [hg]; exact (below_size (by repeat (first | (with_reducible first | exact HB.out | apply below_alloc | apply pw_below_drewN | apply below_drew1 | refine below_set ?_ GE163.out) | exact HB.out))) : w.heap.size ≤ gb164)); have n4_ := Aside0.mk ((by rw [hg]; exact (below_size (by repeat (first | (with_reducible first | exact HB.out | apply below_alloc | apply pw_below_drewN | apply below_drew1 | refine below_set ?_ GE163.out) | exact HB.out))) : w.heap.size ≤ gb164)); have n5_ := Aside0.mk ((by rw [hg]; exact Nat.ne_of_lt (blk_lt (g := gb163) (o := .cells #[.int .i64 a0_0, .int .i64 a0_1, .slice A0_2 l0_2.length c0_2] 26 (0, 0)) (by (with_reducible repeat (first | refine blk_drewN ?_ _ | refine blk_drew ?_ | refine blk_alloc ?_ _)); exact BK163.out)) : gb163 ≠ gb164)); have n6_ := Aside0.mk ((by rw [hg]; exact Nat.ne_of_gt (blk_lt (g := gb163) (o := .cells #[.int .i64 a0_0, .int .i64 a0_1, .slice A0_2 l0_2.length c0_2] 26 (0, 0)) (by (with_reducible repeat (first | refine blk_drewN ?_ _ | refine blk_drew ?_ | refine blk_alloc ?_ _)); exact BK163.out)) : gb164 ≠ gb163)); clear BK163; clear HB; have BK163 := n0_; have HB := n1_; have BK164 := n2_; have GW164 := n3_; have GE164 := n4_; have NB163_164 := n5_; have NB164_163 := n6_; clear n0_ n1_ n2_ n3_ n4_ n5_ n6_; clear hb hbox hg; have hnb111 := NB163_164.out; have hnc111 := NB164_163.out; have hcz112_0 : w110.cell? ⟨gb163, 0, none⟩ = some (.int .i64 a0_0) := (blk_cell BK163.out 0).trans rfl; have hcz112_1 : w110.cell? ⟨gb163, 1, none⟩ = some (.int .i64 a0_1) := (blk_cell BK163.out 1).trans rfl; have hcz112_2 : w110.cell? ⟨gb163, 2, none⟩ = some (.slice A0_2 l0_2.length c0_2) := (blk_cell BK163.out 2).trans rfl; have hfz112_0 := blk_frozen BK163.out 0; have hfz112_1 := blk_frozen BK163.out 1; have hfz112_2 := blk_frozen BK163.out 2) | ((with_reducible refine gate_callee (f := 44) rfl ?_); refine goesL_ (some 20) rfl rfl Try.func44 (by kernel_rfl) rfl #[.agg #[.int .i64 a0_0, .int .i64 a0_1, .slice A0_2 l0_2.length c0_2]] rfl (by (try simp only [List.map_toArray, List.map_cons, List.map_nil]); first | done | rfl | (simp only [List.length_drop, List.length_take]; rfl)) ?_; (with_reducible refine (impl_FieldOK.calls k a0_0 a0_1 _ _ l0_2 false _ ?side1 ?side2 A3.out).mono ?_); (case side1 => repeat (first | exact (Kd.C_below HR0_2.out HB.out) | (with_reducible refine Kd.C_alloc ?_ _) | (with_reducible refine Kd.C_drewN ?_ _) | (with_reducible refine Kd.C_drew ?_))); (case side2 => exact HC0_2.out); rintro e w113 ⟨rfl, hb⟩; refine ⟨_, rfl, ?_⟩; have n0_ := Aside0.mk (blk_below (g := gb163) (o := .cells #[.int .i64 a0_0, .int .i64 a0_1, .slice A0_2 l0_2.length c0_2] 26 (0, 0)) (by (with_reducible repeat (first | refine blk_drewN ?_ _ | refine blk_drew ?_ | refine blk_alloc ?_ _)); exact BK163.out) hb); have n1_ := Aside0.mk (blk_below (g := gb164) (o := .cells #[.int .i64 a1] 3 (0, 0)) (by (with_reducible repeat (first | refine blk_drewN ?_ _ | refine blk_drew ?_ | refine blk_alloc ?_ _)); exact BK164.out) hb); have n2_ := Aside0.mk (below_step (by repeat (first | (with_reducible first | exact HB.out | apply below_alloc | apply pw_below_drewN | apply below_drew1 | refine below_set ?_ GE163.out | refine below_set ?_ GE164.out) | exact HB.out)) hb); clear BK163; clear BK164; clear HB; have BK163 := n0_; have BK164 := n1_; have HB := n2_; clear n0_ n1_ n2_; (try clear hb); (try clear hb2); (try clear hk); (try clear hi)))
    go_ret2
    exact ⟨_, by first | rfl | (simp [errW_none, errW_some] <;> rfl) | (simp [*, errW_none, errW_some] <;> rfl), by first | exact Kd.R_nil _ _ _ _ _ | exact Kd.N_nil _ _ _ _ _ | exact Kd.V_nil _ _ _ _ _ | exact Kd.Q_nil _ _ _ _ _ | exact Kd.S_nil _ _ _ _ _, by repeat (first | (with_reducible first | exact HB.out | apply below_alloc | apply pw_below_drewN | apply below_drew1 | refine below_set ?_ GE163.out | refine below_set ?_ GE164.out) | exact HB.out)⟩

end Go.Proofs.Ytgmbbcnfcddamaa.PFnExactContour
