/- Written for this claim by a program of this session: the functions that the law reaches, each with its contract. -/
import Derived.Test.YtgmbbcnfcddamaaPFnContourx0
import Derived.Test.YtgmbbcnfcddamaaPFnContourx1
import Derived.Test.YtgmbbcnfcddamaaPFnContourx5
namespace Go.Proofs.Ytgmbbcnfcddamaa.PFnContour
open Go.RowKit Go.Proofs.YtgmbbcnfcddamaaW.PrintWords Go.Proofs.YtgmbbcnfcddamaaW.PrintLast Go.Proofs.YtgmbbcnfcddamaaW.PrintMore
open Go.Proofs.YtgmbbcnfcddamaaW.PrintWords.Aside0 renaming mk → zA
open List renaming setIfInBounds_toArray → zB, set_cons_zero → zC, set_cons_succ → zD
open Go.Proofs.YtgmbbcnfcddamaaW.PrintWords.Kd renaming R_drewN → zE, R_alloc → zF, R_drew → zG, C_drewN → zH, C_alloc → zI, C_drew → zJ, R_reads' → zK, R_below → zL
open Go.Proofs.YtgmbbcnfcddamaaW.PrintWords renaming blk_drewN → zM, blk_drew → zN, blk_alloc → zO, below_drew1 → zQ, below_set → zS, below_size → zT, blk_below → zU
attribute [local go_sem] i64_w max2_int min2_int max_two min_two max_three min_three max_four min_four
set_option linter.unusedVariables false
set_option linter.unusedSimpArgs false

attribute [local go_sem high] eqA43
theorem arr_add (g n : Nat) : (⟨g, 0, none⟩ : Addr).add n = ⟨g, n, none⟩ := by
 unfold Addr.add
 split
 ·rename_i h; rw [h]
 ·simp
theorem Kd.R_arr {α : Type} (d : Kd α) {W : World} {base g e : Nat} {xs : List α} {inner : Array Value} (h : W.heap[g]? = some (.cells inner e (0, 0))) (hb : base ≤ g) (hm : xs.length ≤ 9223372036854775807) (hrep : Reps (d.M W base (fun k => True ∧ some k ≠ some g)) d.sz xs inner.toList) :
  ∃ v : Value, v = .slice (some ⟨g, 0, none⟩) xs.length xs.length ∧ d.R e W base (fun _ => True) v xs :=
 ⟨_, rfl, fun _ _ => trivial, inner.toList, ⟨hrep.1, .inr ⟨g, xs.length, inner, rfl, hb, h, Nat.le_refl _, by simpa [maxLen] using hm, by simpa using hrep.1, List.take_of_length_le (by rw [hrep.1]; exact Nat.le_refl _)⟩⟩, hrep⟩
theorem goesD_ {P : Program} {ops : Array Oper} {Q : Exit → Act → World → Prop} {oi : Oper} {N : Option Tmp} {a : Act} {w : World} {K : Act → World → Prop} {f : FuncId} {fn : Func} {c : Operand} {ax : Array Operand} {ts : Array TypeId} {cap : Array Value} (hf : P.funcs[f]? = some fn) (hname : (fn.name == "runtime.NumGoroutine") = false) (hb : fn.body.isSome = true) (args : Array Value)
  (hw : Region.wanted oi (yielded ops a.tmps) = true) (hN : oi.dst = N) (hop : oi.op = .call { callee := .value c, args := ax, argTypes := ts }) (hc : a.eval c = .func (.func f) #[] cap) (ha : ax.map a.eval ++ cap = args)
  (h : Calls P f args w fun e w' => ∃ v, e = .returned v ∧ K (a.put N v) w') : if Region.wanted oi (yielded ops a.tmps) = true then Oper.wp P oi a w K Q else K (a.put N undef) w := by
 refine call_ f args hw hN ?_ h
 have he := enters_ hf hname hb args w
 unfold execOp
 subst ha
 simp [hop, hc, resolve, Deferred.ofValue, invoke, he]
theorem then_wrap {P : Program} {s : Code} {Q : Exit → Act → World → Prop} {a : Act} {w : World} (h : ∀ K : Act → World → Prop, (∀ a' w', Q .normal a' w' → K a' w') → s.wp P (Exit.then K Q) a w) : s.wp P Q a w := by
 refine wp_mono (h (Q .normal) (fun _ _ q => q)) ?_
 intro e a' w' hq
 cases e <;> exact hq
mutual
def impl_Contour.j0 : Nat → Bool → Int → Int → List Int → Int → Int → Option ((List (S43)) × Int)
 | 0, _, _, _, _, _, _ => none
 | k + 1, x27, x142000, x142001, x142002, x143000, x143001 => if x27 = true then (some (([] : List (S43)), 5)) else (impl_Contour.l0 k (-1) x142002 (x142002.length : Int) 0 x142000 x142001 x142002 x143000 x143001)
def impl_Contour.j2 : Nat → Int → Int → Int → List Int → Int → Int → Option ((List (S43)) × Int)
 | 0, _, _, _, _, _, _ => none
 | k + 1, x7, x142000, x142001, x142002, x143000, x143001 => if x7 < 0 then (some (([] : List (S43)), 8)) else (if x142000 = 0 then (none) else (impl_Contour.l1 k (([(⟨1, 0⟩ : S43), (⟨0, 1⟩ : S43), (⟨(-1), 0⟩ : S43), (⟨0, (-1)⟩ : S43)] : List (S43))) (([(⟨0, 0⟩ : S43), (⟨(-1), 0⟩ : S43), (⟨(-1), (-1)⟩ : S43), (⟨0, (-1)⟩ : S43)] : List (S43))) (([(⟨0, (-1)⟩ : S43), (⟨0, 0⟩ : S43), (⟨(-1), 0⟩ : S43), (⟨(-1), (-1)⟩ : S43)] : List (S43))) 0 (([(⟨Int.tmod x7 x142000, wrap64 (Int.tdiv x7 x142000)⟩ : S43)] : List (S43))) x142000 x142001 x142002 x143000 x143001 (Int.tmod x7 x142000) (wrap64 (Int.tdiv x7 x142000)) (Int.tmod x7 x142000) (wrap64 (Int.tdiv x7 x142000))))
def impl_Contour.l1 : Nat → List (S43) → List (S43) → List (S43) → Int → List (S43) → Int → Int → List Int → Int → Int → Int → Int → Int → Int → Option ((List (S43)) × Int)
 | 0, _, _, _, _, _, _, _, _, _, _, _, _, _, _ => none
 | k + 1, x12, x13, x14, x15, x16, x142000, x142001, x142002, x143000, x143001, x146000, x146001, x147000, x147001 => if 0 ≤ x15 then (if x15 < (x12.length : Int) then (if ((wrap64 (x146000 + ((rd_T43 x12 x15).f0))) == x147000 && ((wrap64 (x146001 + ((rd_T43 x12 x15).f1))) == x147001)) = true then (some (x16, 0)) else (if x15 < (x13.length : Int) then ((impl_Contour_1.f (wrap64 ((wrap64 (x146000 + ((rd_T43 x12 x15).f0))) + ((rd_T43 x13 x15).f0))) (wrap64 ((wrap64 (x146001 + ((rd_T43 x12 x15).f1))) + ((rd_T43 x13 x15).f1))) x142000 x142001 x142002 x143000).bind fun t163 => (if x15 < (x14.length : Int) then ((impl_Contour_1.f (wrap64 ((wrap64 (x146000 + ((rd_T43 x12 x15).f0))) + ((rd_T43 x14 x15).f0))) (wrap64 ((wrap64 (x146001 + ((rd_T43 x12 x15).f1))) + ((rd_T43 x14 x15).f1))) x142000 x142001 x142002 x143000).bind fun t166 => (if t163 = true then (if t166 = true then (if x16.length < 8796093022208 then (impl_Contour.j4 k x12 x13 x14 (Int.tmod (wrap64 (x15 + 3)) 4) (x16 ++ [(⟨wrap64 (x146000 + ((rd_T43 x12 x15).f0)), wrap64 (x146001 + ((rd_T43 x12 x15).f1))⟩ : S43)]) x142000 x142001 x142002 x143000 x143001 (wrap64 (x146000 + ((rd_T43 x12 x15).f0))) (wrap64 (x146001 + ((rd_T43 x12 x15).f1))) x147000 x147001) else (none)) else (impl_Contour.j4 k x12 x13 x14 x15 x16 x142000 x142001 x142002 x143000 x143001 (wrap64 (x146000 + ((rd_T43 x12 x15).f0))) (wrap64 (x146001 + ((rd_T43 x12 x15).f1))) x147000 x147001)) else (if x16.length < 8796093022208 then (impl_Contour.j5 k x12 x13 x14 (Int.tmod (wrap64 (x15 + 1)) 4) (x16 ++ [(⟨wrap64 (x146000 + ((rd_T43 x12 x15).f0)), wrap64 (x146001 + ((rd_T43 x12 x15).f1))⟩ : S43)]) x142000 x142001 x142002 x143000 x143001 (wrap64 (x146000 + ((rd_T43 x12 x15).f0))) (wrap64 (x146001 + ((rd_T43 x12 x15).f1))) x147000 x147001) else (none)))) else (none))) else (none))) else (none)) else (none)
def impl_Contour.j5 : Nat → List (S43) → List (S43) → List (S43) → Int → List (S43) → Int → Int → List Int → Int → Int → Int → Int → Int → Int → Option ((List (S43)) × Int)
 | 0, _, _, _, _, _, _, _, _, _, _, _, _, _, _ => none
 | k + 1, x12, x13, x14, x15, x16, x142000, x142001, x142002, x143000, x143001, x146000, x146001, x147000, x147001 => impl_Contour.l1 k x12 x13 x14 x15 x16 x142000 x142001 x142002 x143000 x143001 x146000 x146001 x147000 x147001
def impl_Contour.j4 : Nat → List (S43) → List (S43) → List (S43) → Int → List (S43) → Int → Int → List Int → Int → Int → Int → Int → Int → Int → Option ((List (S43)) × Int)
 | 0, _, _, _, _, _, _, _, _, _, _, _, _, _, _ => none
 | k + 1, x12, x13, x14, x15, x16, x142000, x142001, x142002, x143000, x143001, x146000, x146001, x147000, x147001 => impl_Contour.j5 k x12 x13 x14 x15 x16 x142000 x142001 x142002 x143000 x143001 x146000 x146001 x147000 x147001
def impl_Contour.l0 : Nat → Int → List Int → Int → Int → Int → Int → List Int → Int → Int → Option ((List (S43)) × Int)
 | 0, _, _, _, _, _, _, _, _, _ => none
 | k + 1, x7, x30, x31, x32, x142000, x142001, x142002, x143000, x143001 => if x32 < x31 then (if 0 ≤ x32 then (if x32 < (x30.length : Int) then (if (rd x30 x32) > x143000 then (impl_Contour.j2 k x32 x142000 x142001 x142002 x143000 x143001) else (impl_Contour.l0 k x7 x30 x31 (wrap64 (x32 + 1)) x142000 x142001 x142002 x143000 x143001)) else (none)) else (none)) else (impl_Contour.j2 k x7 x142000 x142001 x142002 x143000 x143001)
end
def impl_Contour.f (k : Nat) (a0_0 : Int) (a0_1 : Int) (l0_2 : List Int) (a1 : Int) : Option ((List (S43)) × Int) := (impl_FieldOK.f k a0_0 a0_1 l0_2).bind fun t143 => (if t143 = true then (if a1 < 0 then (impl_Contour.j0 k true a0_0 a0_1 l0_2 a1 0) else (impl_Contour.j0 k (decide (a1 ≥ 24)) a0_0 a0_1 l0_2 a1 0)) else (some (([] : List (S43)), 1)))
theorem impl_Contour.mono_l : ∀ k, (∀ y0 y1 y2 y3 y4 y5, LeO (impl_Contour.j0 k y0 y1 y2 y3 y4 y5) (impl_Contour.j0 (k + 1) y0 y1 y2 y3 y4 y5)) ∧ (∀ y0 y1 y2 y3 y4 y5, LeO (impl_Contour.j2 k y0 y1 y2 y3 y4 y5) (impl_Contour.j2 (k + 1) y0 y1 y2 y3 y4 y5)) ∧ (∀ y0 y1 y2 y3 y4 y5 y6 y7 y8 y9 y10 y11 y12 y13, LeO (impl_Contour.l1 k y0 y1 y2 y3 y4 y5 y6 y7 y8 y9 y10 y11 y12 y13) (impl_Contour.l1 (k + 1) y0 y1 y2 y3 y4 y5 y6 y7 y8 y9 y10 y11 y12 y13)) ∧ (∀ y0 y1 y2 y3 y4 y5 y6 y7 y8 y9 y10 y11 y12 y13, LeO (impl_Contour.j5 k y0 y1 y2 y3 y4 y5 y6 y7 y8 y9 y10 y11 y12 y13) (impl_Contour.j5 (k + 1) y0 y1 y2 y3 y4 y5 y6 y7 y8 y9 y10 y11 y12 y13)) ∧ (∀ y0 y1 y2 y3 y4 y5 y6 y7 y8 y9 y10 y11 y12 y13, LeO (impl_Contour.j4 k y0 y1 y2 y3 y4 y5 y6 y7 y8 y9 y10 y11 y12 y13) (impl_Contour.j4 (k + 1) y0 y1 y2 y3 y4 y5 y6 y7 y8 y9 y10 y11 y12 y13)) ∧ (∀ y0 y1 y2 y3 y4 y5 y6 y7 y8, LeO (impl_Contour.l0 k y0 y1 y2 y3 y4 y5 y6 y7 y8) (impl_Contour.l0 (k + 1) y0 y1 y2 y3 y4 y5 y6 y7 y8))
 | 0 => ⟨fun _ _ _ _ _ _ r h => by simp [impl_Contour.j0] at h, fun _ _ _ _ _ _ r h => by simp [impl_Contour.j2] at h, fun _ _ _ _ _ _ _ _ _ _ _ _ _ _ r h => by simp [impl_Contour.l1] at h, fun _ _ _ _ _ _ _ _ _ _ _ _ _ _ r h => by simp [impl_Contour.j5] at h, fun _ _ _ _ _ _ _ _ _ _ _ _ _ _ r h => by simp [impl_Contour.j4] at h, fun _ _ _ _ _ _ _ _ _ r h => by simp [impl_Contour.l0] at h⟩
 | k + 1 => by
  obtain ⟨ih0, ih1, ih2, ih3, ih4, ih5⟩ := impl_Contour.mono_l k
  refine ⟨?_, ?_, ?_, ?_, ?_, ?_⟩
  ·intro y0 y1 y2 y3 y4 y5
   unfold impl_Contour.j0
   repeat' first
   | (with_reducible exact ih0 _ _ _ _ _ _)
   | (with_reducible exact ih1 _ _ _ _ _ _)
   | (with_reducible exact ih2 _ _ _ _ _ _ _ _ _ _ _ _ _ _)
   | (with_reducible exact ih3 _ _ _ _ _ _ _ _ _ _ _ _ _ _)
   | (with_reducible exact ih4 _ _ _ _ _ _ _ _ _ _ _ _ _ _)
   | (with_reducible exact ih5 _ _ _ _ _ _ _ _ _)
   | (with_reducible exact impl_FieldOK.mono _ _ _ _)
   | (with_reducible exact LeO.refl _)
   | (with_reducible exact LeO.none _)
   | (with_reducible refine LeO.ite ?_ ?_)
   | (with_reducible refine LeO.bind ?_ (fun _ => ?_))
   | exact ih0 _ _ _ _ _ _
   | exact ih1 _ _ _ _ _ _
   | exact ih2 _ _ _ _ _ _ _ _ _ _ _ _ _ _
   | exact ih3 _ _ _ _ _ _ _ _ _ _ _ _ _ _
   | exact ih4 _ _ _ _ _ _ _ _ _ _ _ _ _ _
   | exact ih5 _ _ _ _ _ _ _ _ _
   | exact impl_FieldOK.mono _ _ _ _
   | exact LeO.none _
   | refine LeO.ite ?_ ?_
   | refine LeO.bind ?_ (fun _ => ?_)
  ·intro y0 y1 y2 y3 y4 y5
   unfold impl_Contour.j2
   repeat' first
   | (with_reducible exact ih0 _ _ _ _ _ _)
   | (with_reducible exact ih1 _ _ _ _ _ _)
   | (with_reducible exact ih2 _ _ _ _ _ _ _ _ _ _ _ _ _ _)
   | (with_reducible exact ih3 _ _ _ _ _ _ _ _ _ _ _ _ _ _)
   | (with_reducible exact ih4 _ _ _ _ _ _ _ _ _ _ _ _ _ _)
   | (with_reducible exact ih5 _ _ _ _ _ _ _ _ _)
   | (with_reducible exact impl_FieldOK.mono _ _ _ _)
   | (with_reducible exact LeO.refl _)
   | (with_reducible exact LeO.none _)
   | (with_reducible refine LeO.ite ?_ ?_)
   | (with_reducible refine LeO.bind ?_ (fun _ => ?_))
   | exact ih0 _ _ _ _ _ _
   | exact ih1 _ _ _ _ _ _
   | exact ih2 _ _ _ _ _ _ _ _ _ _ _ _ _ _
   | exact ih3 _ _ _ _ _ _ _ _ _ _ _ _ _ _
   | exact ih4 _ _ _ _ _ _ _ _ _ _ _ _ _ _
   | exact ih5 _ _ _ _ _ _ _ _ _
   | exact impl_FieldOK.mono _ _ _ _
   | exact LeO.none _
   | refine LeO.ite ?_ ?_
   | refine LeO.bind ?_ (fun _ => ?_)
  ·intro y0 y1 y2 y3 y4 y5 y6 y7 y8 y9 y10 y11 y12 y13
   unfold impl_Contour.l1
   repeat' first
   | (with_reducible exact ih0 _ _ _ _ _ _)
   | (with_reducible exact ih1 _ _ _ _ _ _)
   | (with_reducible exact ih2 _ _ _ _ _ _ _ _ _ _ _ _ _ _)
   | (with_reducible exact ih3 _ _ _ _ _ _ _ _ _ _ _ _ _ _)
   | (with_reducible exact ih4 _ _ _ _ _ _ _ _ _ _ _ _ _ _)
   | (with_reducible exact ih5 _ _ _ _ _ _ _ _ _)
   | (with_reducible exact impl_FieldOK.mono _ _ _ _)
   | (with_reducible exact LeO.refl _)
   | (with_reducible exact LeO.none _)
   | (with_reducible refine LeO.ite ?_ ?_)
   | (with_reducible refine LeO.bind ?_ (fun _ => ?_))
   | exact ih0 _ _ _ _ _ _
   | exact ih1 _ _ _ _ _ _
   | exact ih2 _ _ _ _ _ _ _ _ _ _ _ _ _ _
   | exact ih3 _ _ _ _ _ _ _ _ _ _ _ _ _ _
   | exact ih4 _ _ _ _ _ _ _ _ _ _ _ _ _ _
   | exact ih5 _ _ _ _ _ _ _ _ _
   | exact impl_FieldOK.mono _ _ _ _
   | exact LeO.none _
   | refine LeO.ite ?_ ?_
   | refine LeO.bind ?_ (fun _ => ?_)
  ·intro y0 y1 y2 y3 y4 y5 y6 y7 y8 y9 y10 y11 y12 y13
   unfold impl_Contour.j5
   repeat' first
   | (with_reducible exact ih0 _ _ _ _ _ _)
   | (with_reducible exact ih1 _ _ _ _ _ _)
   | (with_reducible exact ih2 _ _ _ _ _ _ _ _ _ _ _ _ _ _)
   | (with_reducible exact ih3 _ _ _ _ _ _ _ _ _ _ _ _ _ _)
   | (with_reducible exact ih4 _ _ _ _ _ _ _ _ _ _ _ _ _ _)
   | (with_reducible exact ih5 _ _ _ _ _ _ _ _ _)
   | (with_reducible exact impl_FieldOK.mono _ _ _ _)
   | (with_reducible exact LeO.refl _)
   | (with_reducible exact LeO.none _)
   | (with_reducible refine LeO.ite ?_ ?_)
   | (with_reducible refine LeO.bind ?_ (fun _ => ?_))
   | exact ih0 _ _ _ _ _ _
   | exact ih1 _ _ _ _ _ _
   | exact ih2 _ _ _ _ _ _ _ _ _ _ _ _ _ _
   | exact ih3 _ _ _ _ _ _ _ _ _ _ _ _ _ _
   | exact ih4 _ _ _ _ _ _ _ _ _ _ _ _ _ _
   | exact ih5 _ _ _ _ _ _ _ _ _
   | exact impl_FieldOK.mono _ _ _ _
   | exact LeO.none _
   | refine LeO.ite ?_ ?_
   | refine LeO.bind ?_ (fun _ => ?_)
  ·intro y0 y1 y2 y3 y4 y5 y6 y7 y8 y9 y10 y11 y12 y13
   unfold impl_Contour.j4
   repeat' first
   | (with_reducible exact ih0 _ _ _ _ _ _)
   | (with_reducible exact ih1 _ _ _ _ _ _)
   | (with_reducible exact ih2 _ _ _ _ _ _ _ _ _ _ _ _ _ _)
   | (with_reducible exact ih3 _ _ _ _ _ _ _ _ _ _ _ _ _ _)
   | (with_reducible exact ih4 _ _ _ _ _ _ _ _ _ _ _ _ _ _)
   | (with_reducible exact ih5 _ _ _ _ _ _ _ _ _)
   | (with_reducible exact impl_FieldOK.mono _ _ _ _)
   | (with_reducible exact LeO.refl _)
   | (with_reducible exact LeO.none _)
   | (with_reducible refine LeO.ite ?_ ?_)
   | (with_reducible refine LeO.bind ?_ (fun _ => ?_))
   | exact ih0 _ _ _ _ _ _
   | exact ih1 _ _ _ _ _ _
   | exact ih2 _ _ _ _ _ _ _ _ _ _ _ _ _ _
   | exact ih3 _ _ _ _ _ _ _ _ _ _ _ _ _ _
   | exact ih4 _ _ _ _ _ _ _ _ _ _ _ _ _ _
   | exact ih5 _ _ _ _ _ _ _ _ _
   | exact impl_FieldOK.mono _ _ _ _
   | exact LeO.none _
   | refine LeO.ite ?_ ?_
   | refine LeO.bind ?_ (fun _ => ?_)
  ·intro y0 y1 y2 y3 y4 y5 y6 y7 y8
   unfold impl_Contour.l0
   repeat' first
   | (with_reducible exact ih0 _ _ _ _ _ _)
   | (with_reducible exact ih1 _ _ _ _ _ _)
   | (with_reducible exact ih2 _ _ _ _ _ _ _ _ _ _ _ _ _ _)
   | (with_reducible exact ih3 _ _ _ _ _ _ _ _ _ _ _ _ _ _)
   | (with_reducible exact ih4 _ _ _ _ _ _ _ _ _ _ _ _ _ _)
   | (with_reducible exact ih5 _ _ _ _ _ _ _ _ _)
   | (with_reducible exact impl_FieldOK.mono _ _ _ _)
   | (with_reducible exact LeO.refl _)
   | (with_reducible exact LeO.none _)
   | (with_reducible refine LeO.ite ?_ ?_)
   | (with_reducible refine LeO.bind ?_ (fun _ => ?_))
   | exact ih0 _ _ _ _ _ _
   | exact ih1 _ _ _ _ _ _
   | exact ih2 _ _ _ _ _ _ _ _ _ _ _ _ _ _
   | exact ih3 _ _ _ _ _ _ _ _ _ _ _ _ _ _
   | exact ih4 _ _ _ _ _ _ _ _ _ _ _ _ _ _
   | exact ih5 _ _ _ _ _ _ _ _ _
   | exact impl_FieldOK.mono _ _ _ _
   | exact LeO.none _
   | refine LeO.ite ?_ ?_
   | refine LeO.bind ?_ (fun _ => ?_)
theorem impl_Contour.mono : ∀ a0 a1 a2 a3 k, LeO (impl_Contour.f k a0 a1 a2 a3) (impl_Contour.f (k + 1) a0 a1 a2 a3) := by
 intro a0 a1 a2 a3 k
 obtain ⟨ih0, ih1, ih2, ih3, ih4, ih5⟩ := impl_Contour.mono_l k
 unfold impl_Contour.f
 repeat' first
   | (with_reducible exact ih0 _ _ _ _ _ _)
   | (with_reducible exact ih1 _ _ _ _ _ _)
   | (with_reducible exact ih2 _ _ _ _ _ _ _ _ _ _ _ _ _ _)
   | (with_reducible exact ih3 _ _ _ _ _ _ _ _ _ _ _ _ _ _)
   | (with_reducible exact ih4 _ _ _ _ _ _ _ _ _ _ _ _ _ _)
   | (with_reducible exact ih5 _ _ _ _ _ _ _ _ _)
   | (with_reducible exact impl_FieldOK.mono _ _ _ _)
   | (with_reducible exact LeO.refl _)
   | (with_reducible exact LeO.none _)
   | (with_reducible refine LeO.ite ?_ ?_)
   | (with_reducible refine LeO.bind ?_ (fun _ => ?_))
   | exact ih0 _ _ _ _ _ _
   | exact ih1 _ _ _ _ _ _
   | exact ih2 _ _ _ _ _ _ _ _ _ _ _ _ _ _
   | exact ih3 _ _ _ _ _ _ _ _ _ _ _ _ _ _
   | exact ih4 _ _ _ _ _ _ _ _ _ _ _ _ _ _
   | exact ih5 _ _ _ _ _ _ _ _ _
   | exact impl_FieldOK.mono _ _ _ _
   | exact LeO.none _
   | refine LeO.ite ?_ ?_
   | refine LeO.bind ?_ (fun _ => ?_)
def impl_Contour.T15 : Bool × List (List Nat × List Nat) := (true, [([], []), ([], []), ([1], [1]), ([0, 2], [0, 2]), ([], []), ([], []), ([5], [5]), ([4, 6], [4, 6]), ([3, 7], [3, 7]), ([], []), ([9, 8, 0, 1, 2, 3, 4, 5, 6, 7, 8, 9], [8, 9])])
def impl_Contour.B15 : List Nat := [0, 0, 2, 7, 0, 0, 32, 112, 255, 0, 1023]
theorem impl_Contour.tab15 : rtab .any (opsOf Try.f17 15) = impl_Contour.T15 := by kernel_rfl
theorem impl_Contour.bits15 : waitsOk impl_Contour.T15.2 impl_Contour.B15 = true := by kernel_rfl
def impl_Contour.T22 : Bool × List (List Nat × List Nat) := (true, [([], []), ([0], [0]), ([], []), ([2], [2]), ([3], [3]), ([4], [4]), ([1, 5], [1, 5]), ([], []), ([7], [7]), ([], []), ([9], [9]), ([10], [10]), ([11], [11]), ([8, 12], [8, 12]), ([6, 13], [6, 13]), ([14, 0, 1, 2, 3, 4, 5, 6, 7, 8, 9, 10, 11, 12, 13, 14], [14])])
def impl_Contour.B22 : List Nat := [0, 1, 0, 4, 12, 28, 63, 0, 128, 0, 512, 1536, 3584, 8064, 16383, 32767]
theorem impl_Contour.tab22 : rtab .any (opsOf Try.f17 22) = impl_Contour.T22 := by kernel_rfl
theorem impl_Contour.bits22 : waitsOk impl_Contour.T22.2 impl_Contour.B22 = true := by kernel_rfl
def impl_Contour.T25 : Bool × List (List Nat × List Nat) := (true, [([], []), ([], []), ([1], [1]), ([], []), ([3], [3]), ([4], [4]), ([5], [5]), ([2, 6], [2, 6]), ([], []), ([8], [8]), ([], []), ([10], [10]), ([11], [11]), ([12], [12]), ([9, 13], [9, 13]), ([0, 7, 14], [0, 7, 14]), ([15, 15, 0, 1, 2, 3, 4, 5, 6, 7, 8, 9, 10, 11, 12, 13, 14, 15], [15])])
def impl_Contour.B25 : List Nat := [0, 0, 2, 0, 8, 24, 56, 126, 0, 256, 0, 1024, 3072, 7168, 16128, 32767, 65535]
theorem impl_Contour.tab25 : rtab .any (opsOf Try.f17 25) = impl_Contour.T25 := by kernel_rfl
theorem impl_Contour.bits25 : waitsOk impl_Contour.T25.2 impl_Contour.B25 = true := by kernel_rfl
def impl_Contour.T26 : Bool × List (List Nat × List Nat) := (true, [([], []), ([], []), ([1], [1]), ([], []), ([3], [3]), ([4], [4]), ([5], [5]), ([2, 6], [2, 6]), ([], []), ([8], [8]), ([], []), ([10], [10]), ([11], [11]), ([12], [12]), ([9, 13], [9, 13]), ([0, 7, 14], [0, 7, 14]), ([15, 15, 0, 1, 2, 3, 4, 5, 6, 7, 8, 9, 10, 11, 12, 13, 14, 15], [15])])
def impl_Contour.B26 : List Nat := [0, 0, 2, 0, 8, 24, 56, 126, 0, 256, 0, 1024, 3072, 7168, 16128, 32767, 65535]
theorem impl_Contour.tab26 : rtab .any (opsOf Try.f17 26) = impl_Contour.T26 := by kernel_rfl
theorem impl_Contour.bits26 : waitsOk impl_Contour.T26.2 impl_Contour.B26 = true := by kernel_rfl
set_option maxHeartbeats 8000000 in
set_option maxRecDepth 100000 in
theorem impl_Contour.calls (k : Nat) (a0_0 : Int) (a0_1 : Int) (A0_2 : Option Addr) (c0_2 : Nat) (l0_2 : List Int) (a1 : Int) (r1 : List (S43)) (r2 : Int) (w : World) (hr0_2 : Kd.C (Kd.int .i64) w A0_2 l0_2.length l0_2) (hc0_2 : l0_2.length ≤ c0_2) (h : impl_Contour.f k a0_0 a0_1 l0_2 a1 = some (r1, r2)) :
  Calls Try.prog 17 #[.agg #[.int .i64 a0_0, .int .i64 a0_1, .slice A0_2 l0_2.length c0_2], .int .i64 a1] w fun e w' => ∃ v0_ : Value, e = .returned (.tuple #[v0_, .int .i64 r2]) ∧ Kd.R k43 43 w' w.heap.size (fun _ => True) v0_ r1 ∧ Below w.heap.size w w' := by
 have hu26 := Try.underlying26
 have hu43 := Try.underlying43
 have HR0_2 := zA hr0_2
 have HC0_2 := zA hc0_2
 clear hr0_2 hc0_2
 have HB := zA (Below.refl w.heap.size w)
 have hmf : ∀ (fn : Fn) (first cap : Array Value) (w : World), (Instr.makeFunc fn first cap).run Try.prog w = .ok (.func fn first cap) w := fun _ _ _ _ => rfl
 have H : ((impl_FieldOK.f k a0_0 a0_1 l0_2).bind fun t143 => (if t143 = true then (if a1 < 0 then (impl_Contour.j0 k true a0_0 a0_1 l0_2 a1 0) else (impl_Contour.j0 k (decide (a1 ≥ 24)) a0_0 a0_1 l0_2 a1 0)) else (some (([] : List (S43)), 1)))) = some (r1, r2) := h
 clear h
 replace H := Option.bind_eq_some_iff.mp H
 obtain ⟨t143, A30, H⟩ := H
 replace H : (if t143 = true then (if a1 < 0 then (impl_Contour.j0 k true a0_0 a0_1 l0_2 a1 0) else (impl_Contour.j0 k (decide (a1 ≥ 24)) a0_0 a0_1 l0_2 a1 0)) else (some (([] : List (S43)), 1))) = some (r1, r2) := H
 have A3 := zA A30
 clear A30
 by_cases c4 : t143 = true
 ·subst c4
  have H1 : (if a1 < 0 then (impl_Contour.j0 k true a0_0 a0_1 l0_2 a1 0) else (impl_Contour.j0 k (decide (a1 ≥ 24)) a0_0 a0_1 l0_2 a1 0)) = some (r1, r2) := by rw [if_pos rfl] at H; exact H
  clear H
  have H := H1
  clear H1
  have HC5 := zA H
  clear H
  go_enter Try.func17, Try.ntmps17
  go_upto_region 3 with (first | ((with_reducible refine gate_dst (N := 2) rfl ?_); refine box_event ?hg (N := 2) ?hd (cs := #[.int .i64 a0_0, .int .i64 a0_1, .slice A0_2 l0_2.length c0_2]) (t := 26) ?hr ?_; (case hd => rfl); (case hg => rfl); (case hr => first | (go_simp; done) | (go_simp; rfl)); intro gb141 hg w6 hbox hb; have n0_ := zA (below_step (bB_ HB) hb); have n1_ := zA (hbox); have n2_ := zA ((by rw [hg]; exact (zT (bB_ HB)) : w.heap.size ≤ gb141)); have n3_ := zA ((by rw [hg]; exact (zT (bB_ HB)) : w.heap.size ≤ gb141)); clear HB; have HB := n0_; have BK141 := n1_; have GW141 := n2_; have GE141 := n3_; clear n0_ n1_ n2_ n3_; clear hb hbox hg) | ((with_reducible refine gate_dst (N := 3) rfl ?_); refine box_event ?hg (N := 3) ?hd (cs := #[.int .i64 a1]) (t := 3) ?hr ?_; (case hd => rfl); (case hg => rfl); (case hr => first | (go_simp; done) | (go_simp; rfl)); intro gb142 hg w7 hbox hb; have n0_ := zA (zU (g := gb141) (o := .cells #[.int .i64 a0_0, .int .i64 a0_1, .slice A0_2 l0_2.length c0_2] 26 (0, 0)) (bA_ BK141) hb); have n1_ := zA (below_step (bB_ HB) hb); have n2_ := zA (hbox); have n3_ := zA ((by rw [hg]; exact (zT (bB_ HB)) : w.heap.size ≤ gb142)); have n4_ := zA ((by rw [hg]; exact (zT (bB_ HB)) : w.heap.size ≤ gb142)); have n5_ := zA ((by rw [hg]; exact Nat.ne_of_lt (blk_lt (g := gb141) (o := .cells #[.int .i64 a0_0, .int .i64 a0_1, .slice A0_2 l0_2.length c0_2] 26 (0, 0)) (bA_ BK141)) : gb141 ≠ gb142)); have n6_ := zA ((by rw [hg]; exact Nat.ne_of_gt (blk_lt (g := gb141) (o := .cells #[.int .i64 a0_0, .int .i64 a0_1, .slice A0_2 l0_2.length c0_2] 26 (0, 0)) (bA_ BK141)) : gb142 ≠ gb141)); clear BK141; clear HB; have BK141 := n0_; have HB := n1_; have BK142 := n2_; have GW142 := n3_; have GE142 := n4_; have NB141_142 := n5_; have NB142_141 := n6_; clear n0_ n1_ n2_ n3_ n4_ n5_ n6_; clear hb hbox hg; have hnb8 := NB141_142.out; have hnc8 := NB142_141.out; have hcz9_0 : w7.cell? ⟨gb141, 0, none⟩ = some (.int .i64 a0_0) := (blk_cell BK141.out 0).trans rfl; have hcz9_1 : w7.cell? ⟨gb141, 1, none⟩ = some (.int .i64 a0_1) := (blk_cell BK141.out 1).trans rfl; have hcz9_2 : w7.cell? ⟨gb141, 2, none⟩ = some (.slice A0_2 l0_2.length c0_2) := (blk_cell BK141.out 2).trans rfl; have hfz9_0 := blk_frozen BK141.out 0; have hfz9_1 := blk_frozen BK141.out 1; have hfz9_2 := blk_frozen BK141.out 2) | ((with_reducible refine gate_callee (f := 44) rfl ?_); refine goesL_ (some 20) rfl rfl Try.func44 (by kernel_rfl) rfl #[.agg #[.int .i64 a0_0, .int .i64 a0_1, .slice A0_2 l0_2.length c0_2]] rfl (by (try simp only [List.map_toArray, List.map_cons, List.map_nil]); first | done | rfl | (simp only [List.length_drop, List.length_take]; rfl)) ?_; (with_reducible refine (impl_FieldOK.calls k a0_0 a0_1 _ _ l0_2 true _ ?side1 ?side2 A3.out).mono ?_); (case side1 => repeat (first | exact (Kd.C_below HR0_2.out HB.out) | (with_reducible refine zI ?_ _) | (with_reducible refine zH ?_ _) | (with_reducible refine zJ ?_))); (case side2 => exact HC0_2.out); rintro e w10 ⟨rfl, hb⟩; refine ⟨_, rfl, ?_⟩; have n0_ := zA (zU (g := gb141) (o := .cells #[.int .i64 a0_0, .int .i64 a0_1, .slice A0_2 l0_2.length c0_2] 26 (0, 0)) (bA_ BK141) hb); have n1_ := zA (zU (g := gb142) (o := .cells #[.int .i64 a1] 3 (0, 0)) (bA_ BK142) hb); have n2_ := zA (below_step (bB_ HB) hb); clear BK141; clear BK142; clear HB; have BK141 := n0_; have BK142 := n1_; have HB := n2_; clear n0_ n1_ n2_; (try clear hb); (try clear hb2); (try clear hk); (try clear hi)))
  (try simp only [Act.put, zB, zC, zD])
  go_cut [27] (fun v27 wc => ∃ (kq : Nat) (x27_4 : Bool), v27 = .bool x27_4 ∧ Aside0 (impl_Contour.j0 kq x27_4 a0_0 a0_1 l0_2 a1 0 = some (r1, r2)) ∧ Aside0 (kq ≤ k) ∧ Aside0 (wc.heap[gb141]? = some (.cells #[.int .i64 a0_0, .int .i64 a0_1, (.slice A0_2 l0_2.length c0_2)] 26 (0, 0))) ∧ Aside0 (wc.heap[gb142]? = some (.cells #[.int .i64 a1] 3 (0, 0))) ∧ Aside0 (Below w.heap.size w wc))
  case first =>
   have H := HC5.out
   clear HC5
   by_cases c11 : a1 < 0
   ·rw [if_pos c11] at H
    have c11b0 : decide (a1 < 0) = true := decide_eq_true c11
    clear c11
    (first | rw [c11b0] | (simp only [i64_w, i32_w]; rw [c11b0]) | skip)
    have H' := zA H
    clear H
    have hnb12 := NB142_141.out
    have hnc12 := NB141_142.out
    have hcz13_0 : w10.cell? ⟨gb142, 0, none⟩ = some (.int .i64 a1) := (blk_cell BK142.out 0).trans rfl
    
    have hfz13_0 := blk_frozen BK142.out 0
    
    go_wp2
    go_meet
    case rel => exact ⟨_, (true), (by first | rfl | (simp; done) | (simp [*]; done)), H', ⟨by first | omega | exact Nat.le_refl _⟩, ⟨bA_ BK141⟩, ⟨bA_ BK142⟩, ⟨bB_ HB⟩⟩
   ·rw [if_neg c11] at H
    have c11b0 : decide (a1 < 0) = false := decide_eq_false c11
    clear c11
    (first | rw [c11b0] | (simp only [i64_w, i32_w]; rw [c11b0]) | skip)
    have H' := zA H
    clear H
    have hnb14 := NB142_141.out
    have hnc14 := NB141_142.out
    have hcz15_0 : w10.cell? ⟨gb142, 0, none⟩ = some (.int .i64 a1) := (blk_cell BK142.out 0).trans rfl
    
    have hfz15_0 := blk_frozen BK142.out 0
    
    go_wp2
    go_meet
    case rel => exact ⟨_, (decide (a1 ≥ 24)), (by first | rfl | (simp; done) | (simp [*]; done)), H', ⟨by first | omega | exact Nat.le_refl _⟩, ⟨bA_ BK141⟩, ⟨bA_ BK142⟩, ⟨bB_ HB⟩⟩
  case rest =>
   clear HC5
   try clear c1
   try clear p2
   try clear c4
   try clear c8
   try clear c11
   try clear c11b0
   try clear c12
   try clear c14
   try clear hcz13_0
   try clear hcz13_1
   try clear hcz15_0
   try clear hcz15_1
   try clear hcz9_0
   try clear hcz9_1
   try clear hcz9_2
   try clear hfz13_0
   try clear hfz13_1
   try clear hfz15_0
   try clear hfz15_1
   try clear hfz9_0
   try clear hfz9_1
   try clear hfz9_2
   obtain ⟨kq, x27_4, rfl, HA, HJ4, BK141, BK142, HB⟩ := hcut
   cases kq with
   | zero => exact absurd HA.out (by simp [impl_Contour.j0])
   | succ kj4 =>
    have H := HA.out
    clear HA
    simp only [impl_Contour.j0] at H
    by_cases c16 : x27_4 = true
    ·subst c16
     have H1 : (some (([] : List (S43)), 5)) = some (r1, r2) := by rw [if_pos rfl] at H; exact H
     clear H
     have H := H1
     clear H1
     simp only [Option.some.injEq, Prod.mk.injEq] at H
     obtain ⟨rfl, rfl⟩ := H
     go_wp2
     go_ret2
     exact ⟨_, by first | rfl | (simp [errW_none, errW_some] <;> rfl) | (simp [*, errW_none, errW_some] <;> rfl), by first | exact Kd.R_nil _ _ _ _ _ | exact Kd.N_nil _ _ _ _ _ | exact Kd.V_nil _ _ _ _ _ | exact Kd.Q_nil _ _ _ _ _ | exact Kd.S_nil _ _ _ _ _, bB_ HB⟩
    ·replace c16 := Bool.eq_false_iff.mpr c16
     subst c16
     have H1 : (impl_Contour.l0 kj4 (-1) l0_2 (l0_2.length : Int) 0 a0_0 a0_1 l0_2 a1 0) = some (r1, r2) := by rw [if_neg (show ¬ (false = true) by decide)] at H; exact H
     clear H
     have H := H1
     clear H1
     have HC17 := zA H
     clear H
     have hnb18 := NB141_142.out
     have hnc18 := NB142_141.out
     have hcz19_0 : wc.cell? ⟨gb141, 0, none⟩ = some (.int .i64 a0_0) := (blk_cell BK141.out 0).trans rfl
     have hcz19_1 : wc.cell? ⟨gb141, 1, none⟩ = some (.int .i64 a0_1) := (blk_cell BK141.out 1).trans rfl
     have hcz19_2 : wc.cell? ⟨gb141, 2, none⟩ = some (.slice A0_2 l0_2.length c0_2) := (blk_cell BK141.out 2).trans rfl
     have hfz19_0 := blk_frozen BK141.out 0
     have hfz19_1 := blk_frozen BK141.out 1
     have hfz19_2 := blk_frozen BK141.out 2
     go_upto_block 0 with (fail)
     go_cut [7] (fun v7 wc => ∃ (kq : Nat) (x7_16 : Int), v7 = .int .i64 x7_16 ∧ Aside0 (impl_Contour.j2 kq x7_16 a0_0 a0_1 l0_2 a1 0 = some (r1, r2)) ∧ Aside0 (kq ≤ kj4) ∧ Aside0 (wc.heap[gb141]? = some (.cells #[.int .i64 a0_0, .int .i64 a0_1, (.slice A0_2 l0_2.length c0_2)] 26 (0, 0))) ∧ Aside0 (wc.heap[gb142]? = some (.cells #[.int .i64 a1] 3 (0, 0))) ∧ Aside0 (Below w.heap.size w wc))
     case first =>
      have H := HC17.out
      clear HC17
      have H' := zA H
      clear H
      go_wp2
      go_loopg [7, 32] kj4 (fun kq v7 v32 w' => ∃ (x7_2 : Int) (x32_2 : Int), v7 = .int .i64 x7_2 ∧ v32 = .int .i64 x32_2 ∧ Aside0 (impl_Contour.l0 kq x7_2 l0_2 (l0_2.length : Int) x32_2 a0_0 a0_1 l0_2 a1 0 = some (r1, r2)) ∧ Aside0 (kq ≤ kj4) ∧ Aside0 (w'.heap[gb141]? = some (.cells #[.int .i64 a0_0, .int .i64 a0_1, (.slice A0_2 l0_2.length c0_2)] 26 (0, 0))) ∧ Aside0 (w'.heap[gb142]? = some (.cells #[.int .i64 a1] 3 (0, 0))) ∧ Aside0 (Below w.heap.size w w'))
      case atStart => exact ⟨((-1)), (0), (by first | rfl | (simp; done) | (simp [*]; done)), (by first | rfl | (simp; done) | (simp [*]; done)), H', ⟨Nat.le_refl _⟩, ⟨bA_ BK141⟩, ⟨bA_ BK142⟩, ⟨bB_ HB⟩⟩
      case round =>
       clear H'
       try clear c1
       try clear p2
       try clear c4
       try clear c8
       try clear c11
       try clear c11b0
       try clear c12
       try clear c14
       try clear c16
       try clear c17
       try clear c18
       try clear hcz13_0
       try clear hcz13_1
       try clear hcz15_0
       try clear hcz15_1
       try clear hcz19_0
       try clear hcz19_1
       try clear hcz19_2
       try clear hcz9_0
       try clear hcz9_1
       try clear hcz9_2
       try clear hfz13_0
       try clear hfz13_1
       try clear hfz15_0
       try clear hfz15_1
       try clear hfz19_0
       try clear hfz19_1
       try clear hfz19_2
       try clear hfz9_0
       try clear hfz9_1
       try clear hfz9_2
       try clear p2
       obtain ⟨x7_2, x32_2, rfl, rfl, HA, HK2, BK141, BK142, HB⟩ := hrel
       cases gk with
       | zero => exact absurd HA.out (by simp [impl_Contour.l0])
       | succ k2 =>
        have H := HA.out
        clear HA
        simp only [impl_Contour.l0] at H
        by_cases c20 : x32_2 < (l0_2.length : Int)
        ·rw [if_pos c20] at H
         have c20b0 : decide (x32_2 < (l0_2.length : Int)) = true := decide_eq_true c20
         clear c20
         (first | rw [c20b0] | (simp only [i64_w, i32_w]; rw [c20b0]) | skip)
         by_cases c21 : 0 ≤ x32_2
         ·rw [if_pos c21] at H
          have c21b0 : decide (0 ≤ x32_2) = true := decide_eq_true c21
          clear c21
          by_cases c22 : x32_2 < (l0_2.length : Int)
          ·rw [if_pos c22] at H
           have c22b0 : decide (x32_2 < (l0_2.length : Int)) = true := decide_eq_true c22
           clear c22
           by_cases c23 : (rd l0_2 x32_2) > a1
           ·rw [if_pos c23] at H
            have c23b0 : decide (a1 < (rd l0_2 x32_2)) = true := decide_eq_true c23
            clear c23
            have H' := zA H
            clear H
            have p144 : 0 ≤ (x32_2 : Int) := of_decide_eq_true (by first | (with_reducible assumption) | assumption)
            have q144 : x32_2 < (l0_2.length : Int) := of_decide_eq_true (by first | (with_reducible assumption) | assumption)
            obtain ⟨ad144, e144, hx144_0⟩ := Kd.at_int HR0_2.out x32_2 p144 q144
            cases e144
            replace hx144_0 := hb_ HB.out hx144_0
            replace p144 := eq_true p144
            replace q144 := eq_true q144
            have hnb24 := NB142_141.out
            have hnc24 := NB141_142.out
            have hcz25_0 : wr.cell? ⟨gb142, 0, none⟩ = some (.int .i64 a1) := (blk_cell BK142.out 0).trans rfl
            
            have hfz25_0 := blk_frozen BK142.out 0
            
            go_wp2
            go_meet
            case rel => exact ⟨_, (x32_2), (by first | rfl | (simp; done) | (simp [*]; done)), H', ⟨by have := HJ4.out; have := HK2.out; first | omega | exact Nat.le_refl _⟩, ⟨bA_ BK141⟩, ⟨bA_ BK142⟩, ⟨bB_ HB⟩⟩
           ·rw [if_neg c23] at H
            have c23b0 : decide (a1 < (rd l0_2 x32_2)) = false := decide_eq_false c23
            clear c23
            have H' := zA H
            clear H
            have p144 : 0 ≤ (x32_2 : Int) := of_decide_eq_true (by first | (with_reducible assumption) | assumption)
            have q144 : x32_2 < (l0_2.length : Int) := of_decide_eq_true (by first | (with_reducible assumption) | assumption)
            obtain ⟨ad144, e144, hx144_0⟩ := Kd.at_int HR0_2.out x32_2 p144 q144
            cases e144
            replace hx144_0 := hb_ HB.out hx144_0
            replace p144 := eq_true p144
            replace q144 := eq_true q144
            have hnb26 := NB142_141.out
            have hnc26 := NB141_142.out
            have hcz27_0 : wr.cell? ⟨gb142, 0, none⟩ = some (.int .i64 a1) := (blk_cell BK142.out 0).trans rfl
            
            have hfz27_0 := blk_frozen BK142.out 0
            
            go_wp2
            go_roundg k2
            case measure => have := HJ4.out; have := HK2.out; omega
            case rel => exact ⟨(x7_2), (wrap64 (x32_2 + 1)), (by first | rfl | (simp; done) | (simp [*]; done)), (by first | rfl | (simp; done) | (simp [*]; done)), H', ⟨by have := HJ4.out; have := HK2.out; omega⟩, ⟨bA_ BK141⟩, ⟨bA_ BK142⟩, ⟨bB_ HB⟩⟩
          ·rw [if_neg c22] at H
           exact absurd H (by simp)
         ·rw [if_neg c21] at H
          exact absurd H (by simp)
        ·rw [if_neg c20] at H
         have c20b0 : decide (x32_2 < (l0_2.length : Int)) = false := decide_eq_false c20
         clear c20
         (first | rw [c20b0] | (simp only [i64_w, i32_w]; rw [c20b0]) | skip)
         have H' := zA H
         clear H
         go_wp2
         go_meet
         case rel => exact ⟨_, (x7_2), (by first | rfl | (simp; done) | (simp [*]; done)), H', ⟨by have := HJ4.out; have := HK2.out; first | omega | exact Nat.le_refl _⟩, ⟨bA_ BK141⟩, ⟨bA_ BK142⟩, ⟨bB_ HB⟩⟩
     case rest =>
      clear HC17
      try clear c1
      try clear p1
      try clear q1
      try clear hx1
      try clear c2
      try clear p2
      try clear c4
      try clear p6
      try clear c8
      try clear c11
      try clear c11b0
      try clear c12
      try clear c14
      try clear p14
      try clear q14
      try clear hx14
      try clear c16
      try clear c17
      try clear c18
      try clear c20
      try clear c20b0
      try clear c21
      try clear c21b0
      try clear c22
      try clear c22b0
      try clear c23
      try clear c23b0
      try clear c24
      try clear c26
      try clear hcz13_0
      try clear hcz13_1
      try clear hcz15_0
      try clear hcz15_1
      try clear hcz19_0
      try clear hcz19_1
      try clear hcz19_2
      try clear hcz25_0
      try clear hcz25_1
      try clear hcz27_0
      try clear hcz27_1
      try clear hcz9_0
      try clear hcz9_1
      try clear hcz9_2
      try clear hfz13_0
      try clear hfz13_1
      try clear hfz15_0
      try clear hfz15_1
      try clear hfz19_0
      try clear hfz19_1
      try clear hfz19_2
      try clear hfz25_0
      try clear hfz25_1
      try clear hfz27_0
      try clear hfz27_1
      try clear hfz9_0
      try clear hfz9_1
      try clear hfz9_2
      try clear hx144_0
      try clear p144
      try clear p2
      try clear q144
      obtain ⟨kq, x7_16, rfl, HA, HJ16, BK141, BK142, HB⟩ := hcut
      cases kq with
      | zero => exact absurd HA.out (by simp [impl_Contour.j2])
      | succ kj16 =>
       have H := HA.out
       clear HA
       simp only [impl_Contour.j2] at H
       by_cases c28 : x7_16 < 0
       ·rw [if_pos c28] at H
        have c28b0 : decide (x7_16 < 0) = true := decide_eq_true c28
        clear c28
        simp only [Option.some.injEq, Prod.mk.injEq] at H
        obtain ⟨rfl, rfl⟩ := H
        go_wp2
        go_ret2
        exact ⟨_, by first | rfl | (simp [errW_none, errW_some] <;> rfl) | (simp [*, errW_none, errW_some] <;> rfl), by first | exact Kd.R_nil _ _ _ _ _ | exact Kd.N_nil _ _ _ _ _ | exact Kd.V_nil _ _ _ _ _ | exact Kd.Q_nil _ _ _ _ _ | exact Kd.S_nil _ _ _ _ _, bB_ HB⟩
       ·rw [if_neg c28] at H
        have c28b0 : decide (x7_16 < 0) = false := decide_eq_false c28
        clear c28
        by_cases c29 : a0_0 = 0
        ·rw [if_pos c29] at H
         exact absurd H (by simp)
        ·rw [if_neg c29] at H
         have c29b0 : (a0_0 == 0) = false := beq_eq_false_iff_ne.mpr c29
         have c29b1 : (a0_0 != 0) = true := bne_iff_ne.mpr c29
         obtain ⟨y147, hy147⟩ : ∃ y_ : List (S43), y_ = (([(⟨1, 0⟩ : S43), (⟨0, 1⟩ : S43), (⟨(-1), 0⟩ : S43), (⟨0, (-1)⟩ : S43)] : List (S43))) := ⟨_, rfl⟩
         replace H : (impl_Contour.l1 kj16 y147 (([(⟨0, 0⟩ : S43), (⟨(-1), 0⟩ : S43), (⟨(-1), (-1)⟩ : S43), (⟨0, (-1)⟩ : S43)] : List (S43))) (([(⟨0, (-1)⟩ : S43), (⟨0, 0⟩ : S43), (⟨(-1), 0⟩ : S43), (⟨(-1), (-1)⟩ : S43)] : List (S43))) 0 (([(⟨Int.tmod x7_16 a0_0, wrap64 (Int.tdiv x7_16 a0_0)⟩ : S43)] : List (S43))) a0_0 a0_1 l0_2 a1 0 (Int.tmod x7_16 a0_0) (wrap64 (Int.tdiv x7_16 a0_0)) (Int.tmod x7_16 a0_0) (wrap64 (Int.tdiv x7_16 a0_0))) = some (r1, r2) := by first | (rw [hy147]; with_reducible exact H) | (have H2_ := (Option.bind_some _ _).symm.trans H; rw [hy147]; with_reducible exact H2_) | (have H2_ := (Option.bind_some _ _).symm.trans H; with_reducible exact H2_) | with_reducible exact H | (rw [hy147]; exact H) | exact H
         have Ny147 := zA hy147
         clear hy147
         obtain ⟨y150, hy150⟩ : ∃ y_ : List (S43), y_ = (([(⟨0, 0⟩ : S43), (⟨(-1), 0⟩ : S43), (⟨(-1), (-1)⟩ : S43), (⟨0, (-1)⟩ : S43)] : List (S43))) := ⟨_, rfl⟩
         replace H : (impl_Contour.l1 kj16 y147 y150 (([(⟨0, (-1)⟩ : S43), (⟨0, 0⟩ : S43), (⟨(-1), 0⟩ : S43), (⟨(-1), (-1)⟩ : S43)] : List (S43))) 0 (([(⟨Int.tmod x7_16 a0_0, wrap64 (Int.tdiv x7_16 a0_0)⟩ : S43)] : List (S43))) a0_0 a0_1 l0_2 a1 0 (Int.tmod x7_16 a0_0) (wrap64 (Int.tdiv x7_16 a0_0)) (Int.tmod x7_16 a0_0) (wrap64 (Int.tdiv x7_16 a0_0))) = some (r1, r2) := by first | (rw [hy150]; with_reducible exact H) | (have H2_ := (Option.bind_some _ _).symm.trans H; rw [hy150]; with_reducible exact H2_) | (have H2_ := (Option.bind_some _ _).symm.trans H; with_reducible exact H2_) | with_reducible exact H | (rw [hy150]; exact H) | exact H
         have Ny150 := zA hy150
         clear hy150
         obtain ⟨y153, hy153⟩ : ∃ y_ : List (S43), y_ = (([(⟨0, (-1)⟩ : S43), (⟨0, 0⟩ : S43), (⟨(-1), 0⟩ : S43), (⟨(-1), (-1)⟩ : S43)] : List (S43))) := ⟨_, rfl⟩
         replace H : (impl_Contour.l1 kj16 y147 y150 y153 0 (([(⟨Int.tmod x7_16 a0_0, wrap64 (Int.tdiv x7_16 a0_0)⟩ : S43)] : List (S43))) a0_0 a0_1 l0_2 a1 0 (Int.tmod x7_16 a0_0) (wrap64 (Int.tdiv x7_16 a0_0)) (Int.tmod x7_16 a0_0) (wrap64 (Int.tdiv x7_16 a0_0))) = some (r1, r2) := by first | (rw [hy153]; with_reducible exact H) | (have H2_ := (Option.bind_some _ _).symm.trans H; rw [hy153]; with_reducible exact H2_) | (have H2_ := (Option.bind_some _ _).symm.trans H; with_reducible exact H2_) | with_reducible exact H | (rw [hy153]; exact H) | exact H
         have Ny153 := zA hy153
         clear hy153
         obtain ⟨y156, hy156⟩ : ∃ y_ : List (S43), y_ = (([(⟨Int.tmod x7_16 a0_0, wrap64 (Int.tdiv x7_16 a0_0)⟩ : S43)] : List (S43))) := ⟨_, rfl⟩
         replace H : (impl_Contour.l1 kj16 y147 y150 y153 0 y156 a0_0 a0_1 l0_2 a1 0 (Int.tmod x7_16 a0_0) (wrap64 (Int.tdiv x7_16 a0_0)) (Int.tmod x7_16 a0_0) (wrap64 (Int.tdiv x7_16 a0_0))) = some (r1, r2) := by first | (rw [hy156]; with_reducible exact H) | (have H2_ := (Option.bind_some _ _).symm.trans H; rw [hy156]; with_reducible exact H2_) | (have H2_ := (Option.bind_some _ _).symm.trans H; with_reducible exact H2_) | with_reducible exact H | (rw [hy156]; exact H) | exact H
         have Ny156 := zA hy156
         clear hy156
         have H' := zA H
         clear H
         try go_wp2
         have n0_ := zA (zN BK141.out)
         have n1_ := zA (zN BK142.out)
         have n2_ := zA (zQ HB.out)
         clear BK141
         clear BK142
         clear HB
         have BK141 := n0_
         have BK142 := n1_
         have HB := n2_
         clear n0_ n1_ n2_
         refine start_ (n := 11) (S := fun w' => w'.cell? ⟨gb141, 0, none⟩ = some (.int .i64 a0_0) ∧ w'.cell? ⟨gb141, 1, none⟩ = some (.int .i64 a0_1) ∧ w'.cell? ⟨gb141, 2, none⟩ = some (.slice A0_2 l0_2.length c0_2)) (ds := []) #[false, false, false, false, false, false, false, false, false, false, false] (by kernel_rfl) rfl rfl ⟨(blk_cell BK141.out 0).trans rfl, (blk_cell BK141.out 1).trans rfl, (blk_cell BK141.out 2).trans rfl⟩ (fun hHeld => ?_); refine with_tabW impl_Contour.tab15 impl_Contour.bits15 (fun HT_ HW_ => ?_)
         generalize wc.drew = w30 at BK141 BK142 HB hHeld ⊢
         refine pure_ (i := 0) (N := some 44) (v := ?_) (a' := ?_) #[true, false, false, false, false, false, false, false, false, false, false] rfl rfl (any_of HT_.out (by kernel_rfl)) (fun _ _ _ h => h) (Or.inl ⟨by rfl, ?_⟩) ?_ ?_
         rotate_left
         ·intro w'
          go_simp
          with_reducible rfl
         rotate_left
         ·simp only [Act.put, zB, zC, zD, i64_w, i32_w]
          rfl
         refine pure_ (i := 1) (N := some 45) (v := ?_) (a' := ?_) #[true, true, false, false, false, false, false, false, false, false, false] rfl rfl (any_of HT_.out (by kernel_rfl)) (fun _ _ _ h => h) (Or.inl ⟨by rfl, ?_⟩) ?_ ?_
         rotate_left
         ·intro w'
          go_simp
          with_reducible rfl
         rotate_left
         ·simp only [Act.put, zB, zC, zD, i64_w, i32_w]
          rfl
         refine pure_ (i := 4) (N := some 48) (v := ?_) (a' := ?_) #[true, true, false, false, true, false, false, false, false, false, false] rfl rfl (any_of HT_.out (by kernel_rfl)) (fun _ _ _ h => h) (Or.inl ⟨by rfl, ?_⟩) ?_ ?_
         rotate_left
         ·intro w'
          go_simp
          with_reducible rfl
         rotate_left
         ·simp only [Act.put, zB, zC, zD, i64_w, i32_w]
          rfl
         refine pure_ (i := 5) (N := some 49) (v := ?_) (a' := ?_) #[true, true, false, false, true, true, false, false, false, false, false] rfl rfl (any_of HT_.out (by kernel_rfl)) (fun _ _ _ h => h) (Or.inl ⟨by rfl, ?_⟩) ?_ ?_
         rotate_left
         ·intro w'
          go_simp
          with_reducible rfl
         rotate_left
         ·simp only [Act.put, zB, zC, zD, i64_w, i32_w]
          rfl
         refine take_ (i := 2) (N := some 46) (v := ?_) (a' := ?_) #[true, true, true, false, true, true, false, false, false, false, false] rfl rfl (take_ofW HT_.out HW_.out (by kernel_rfl)) (fun _ _ _ h => h) (Or.inl ⟨by rfl, ?_⟩) hHeld ?_ ?_
         rotate_left
         ·rintro w' ⟨s0, s1, s2⟩
          go_simp
          with_reducible rfl
         rotate_left
         ·simp only [Act.put, zB, zC, zD, i64_w, i32_w]
          rfl
         refine pure_ (i := 3) (N := some 47) (v := ?_) (a' := ?_) #[true, true, true, true, true, true, false, false, false, false, false] rfl rfl (any_of HT_.out (by kernel_rfl)) (fun _ _ _ h => h) (Or.inl ⟨by rfl, ?_⟩) ?_ ?_
         rotate_left
         ·intro w'
          go_simp
          with_reducible rfl
         rotate_left
         ·simp only [Act.put, zB, zC, zD, i64_w, i32_w]
          rfl
         refine take_ (i := 6) (N := some 50) (v := ?_) (a' := ?_) #[true, true, true, true, true, true, true, false, false, false, false] rfl rfl (take_ofW HT_.out HW_.out (by kernel_rfl)) (fun _ _ _ h => h) (Or.inl ⟨by rfl, ?_⟩) hHeld ?_ ?_
         rotate_left
         ·rintro w' ⟨s0, s1, s2⟩
          go_simp
          with_reducible rfl
         rotate_left
         ·simp only [Act.put, zB, zC, zD, i64_w, i32_w]
          rfl
         refine pure_ (i := 7) (N := some 51) (v := ?_) (a' := ?_) #[true, true, true, true, true, true, true, true, false, false, false] rfl rfl (any_of HT_.out (by kernel_rfl)) (fun _ _ _ h => h) (Or.inl ⟨by rfl, ?_⟩) ?_ ?_
         rotate_left
         ·intro w'
          go_simp
          with_reducible rfl
         rotate_left
         ·simp only [Act.put, zB, zC, zD, i64_w, i32_w]
          rfl
         refine pure_ (i := 8) (N := some 52) (v := ?_) (a' := ?_) #[true, true, true, true, true, true, true, true, true, false, false] rfl rfl (any_of HT_.out (by kernel_rfl)) (fun _ _ _ h => h) (Or.inl ⟨by rfl, ?_⟩) ?_ ?_
         rotate_left
         ·intro w'
          go_simp
          with_reducible rfl
         rotate_left
         ·simp only [Act.put, zB, zC, zD, i64_w, i32_w]
          rfl
         refine one_ (i := 9) (N := some 10) #[true, true, true, true, true, true, true, true, true, true, false] rfl rfl (one_of HT_.out (by kernel_rfl)) (by decide) (fun K hK => ?_)
         refine box_step ?hg (N := 10) ?hd (cs := #[.int .i64 0, .int .i64 0]) (t := 43) ?hr ?_; (case hd => rfl); (case hg => rfl); (case hr => first | (go_simp; done) | (go_simp; rfl))
         intro gb145 hg w31 hbox hb
         have n0_ := zA (zU (g := gb141) (o := .cells #[.int .i64 a0_0, .int .i64 a0_1, .slice A0_2 l0_2.length c0_2] 26 (0, 0)) (bA_ BK141) hb)
         have n1_ := zA (zU (g := gb142) (o := .cells #[.int .i64 a1] 3 (0, 0)) (bA_ BK142) hb)
         have n2_ := zA (below_step (bB_ HB) hb)
         have n3_ := zA (hbox)
         have n4_ := zA ((by rw [hg]; exact (zT (bB_ HB)) : w.heap.size ≤ gb145))
         have n5_ := zA ((by rw [hg]; exact (zT (bB_ HB)) : w.heap.size ≤ gb145))
         have n6_ := zA ((by rw [hg]; exact Nat.ne_of_lt (blk_lt (g := gb141) (o := .cells #[.int .i64 a0_0, .int .i64 a0_1, .slice A0_2 l0_2.length c0_2] 26 (0, 0)) (bA_ BK141)) : gb141 ≠ gb145))
         have n7_ := zA ((by rw [hg]; exact Nat.ne_of_gt (blk_lt (g := gb141) (o := .cells #[.int .i64 a0_0, .int .i64 a0_1, .slice A0_2 l0_2.length c0_2] 26 (0, 0)) (bA_ BK141)) : gb145 ≠ gb141))
         have n8_ := zA ((by rw [hg]; exact Nat.ne_of_lt (blk_lt (g := gb142) (o := .cells #[.int .i64 a1] 3 (0, 0)) (bA_ BK142)) : gb142 ≠ gb145))
         have n9_ := zA ((by rw [hg]; exact Nat.ne_of_gt (blk_lt (g := gb142) (o := .cells #[.int .i64 a1] 3 (0, 0)) (bA_ BK142)) : gb145 ≠ gb142))
         clear BK141
         clear BK142
         clear HB
         have BK141 := n0_
         have BK142 := n1_
         have HB := n2_
         have BK145 := n3_
         have GW145 := n4_
         have GE145 := n5_
         have NB141_145 := n6_
         have NB145_141 := n7_
         have NB142_145 := n8_
         have NB145_142 := n9_
         clear n0_ n1_ n2_ n3_ n4_ n5_ n6_ n7_ n8_ n9_
         clear hb hbox hg
         refine hK.out _ _ ⟨(blk_cell BK141.out 0).trans rfl, (blk_cell BK141.out 1).trans rfl, (blk_cell BK141.out 2).trans rfl⟩ (fun hHeld => ?_)
         clear hK K
         refine norm_ (a' := ?_) ?_ ?_
         rotate_left
         ·show Act.put _ (some 10) _ = _
          simp only [Act.put, zB, zC, zD, i64_w, i32_w]
          rfl
         refine one_ (i := 10) (N := none) #[true, true, true, true, true, true, true, true, true, true, true] rfl rfl (one_of HT_.out (by kernel_rfl)) (by decide) (fun K hK => ?_)
         have hs32 : w31.cell? ⟨gb145, 0, none⟩ = some (.int .i64 0) := (blk_cell BK145.out 0).trans rfl
         have hfs32 := blk_frozen BK145.out 0
         have hns32_0 := NB141_145.out
         have hns32_1 := NB142_145.out
         have hms32_0 := NB145_141.out
         have hms32_1 := NB145_142.out
         have hs33 : w31.cell? ⟨gb145, 1, none⟩ = some (.int .i64 0) := (blk_cell BK145.out 1).trans rfl
         have hfs33 := blk_frozen BK145.out 1
         have hns33_0 := NB141_145.out
         have hns33_1 := NB142_145.out
         have hms33_0 := NB145_141.out
         have hms33_1 := NB145_142.out
         refine skip_ (w1 := ?_) (by rfl) rfl ?_ ?_
         rotate_left
         ·go_simp
          rfl
         refine hK.out _ _ ⟨((cell_far (p := ⟨gb145, _, none⟩) NB141_145.out _).trans (((cell_far (p := ⟨gb145, _, none⟩) NB141_145.out _).trans (hHeld.1)))), ((cell_far (p := ⟨gb145, _, none⟩) NB141_145.out _).trans (((cell_far (p := ⟨gb145, _, none⟩) NB141_145.out _).trans (hHeld.2.1)))), ((cell_far (p := ⟨gb145, _, none⟩) NB141_145.out _).trans (((cell_far (p := ⟨gb145, _, none⟩) NB141_145.out _).trans (hHeld.2.2))))⟩ (fun hHeld => ?_)
         clear hK K
         refine done_ (done_of HT_.out (by kernel_rfl)) ?_
         have hnb34 := NB145_141.out
         have hnc34 := NB141_145.out
         have hnb35 := NB145_142.out
         have hnc35 := NB142_145.out
         have hcz36_0 : w31.cell? ⟨gb145, 0, none⟩ = some (.int .i64 0) := (blk_cell BK145.out 0).trans rfl
         have hcz36_1 : w31.cell? ⟨gb145, 1, none⟩ = some (.int .i64 0) := (blk_cell BK145.out 1).trans rfl
         have hfz36_0 := blk_frozen BK145.out 0
         have hfz36_1 := blk_frozen BK145.out 1
         try go_wp2_with (first | ((with_reducible refine gate_dst (N := 11) rfl ?_); refine box_event ?hg (N := 11) ?hd (cs := #[.int .i64 0, .int .i64 0]) (t := 43) ?hr ?_; (case hd => rfl); (case hg => rfl); (case hr => first | (go_simp; done) | (go_simp; rfl)); intro gb146 hg w37 hbox hb; have n0_ := zA (zU (g := gb141) (o := .cells #[.int .i64 a0_0, .int .i64 a0_1, .slice A0_2 l0_2.length c0_2] 26 (0, 0)) (bD_ BK141) hb); have n1_ := zA (zU (g := gb142) (o := .cells #[.int .i64 a1] 3 (0, 0)) (bD_ BK142) hb); have n2_ := zA (zU (g := gb145) (o := .cells #[.int .i64 (Int.tmod x7_16 a0_0), .int .i64 (wrap64 (Int.tdiv x7_16 a0_0))] 43 (0, 0)) (by (with_reducible repeat (first | refine zM ?_ _ | refine zN ?_ | refine zO ?_ _)); refine blk_put (cs := #[.int .i64 (Int.tmod x7_16 a0_0), .int .i64 0]) ?_ 1 _ rfl; (with_reducible repeat (first | refine zM ?_ _ | refine zN ?_ | refine zO ?_ _)); refine blk_put (cs := #[.int .i64 0, .int .i64 0]) ?_ 0 _ rfl; (with_reducible repeat (first | refine zM ?_ _ | refine zN ?_ | refine zO ?_ _)); exact BK145.out) hb); have n3_ := zA (below_step (bB_ HB) hb); have n4_ := zA (hbox); have n5_ := zA ((by rw [hg]; exact (zT (bB_ HB)) : w.heap.size ≤ gb146)); have n6_ := zA ((by rw [hg]; exact (zT (bB_ HB)) : w.heap.size ≤ gb146)); have n7_ := zA ((by rw [hg]; exact Nat.ne_of_lt (blk_lt (g := gb141) (o := .cells #[.int .i64 a0_0, .int .i64 a0_1, .slice A0_2 l0_2.length c0_2] 26 (0, 0)) (bD_ BK141)) : gb141 ≠ gb146)); have n8_ := zA ((by rw [hg]; exact Nat.ne_of_gt (blk_lt (g := gb141) (o := .cells #[.int .i64 a0_0, .int .i64 a0_1, .slice A0_2 l0_2.length c0_2] 26 (0, 0)) (bD_ BK141)) : gb146 ≠ gb141)); have n9_ := zA ((by rw [hg]; exact Nat.ne_of_lt (blk_lt (g := gb142) (o := .cells #[.int .i64 a1] 3 (0, 0)) (bD_ BK142)) : gb142 ≠ gb146)); have n10_ := zA ((by rw [hg]; exact Nat.ne_of_gt (blk_lt (g := gb142) (o := .cells #[.int .i64 a1] 3 (0, 0)) (bD_ BK142)) : gb146 ≠ gb142)); have n11_ := zA ((by rw [hg]; exact Nat.ne_of_lt (blk_lt (g := gb145) (o := .cells #[.int .i64 (Int.tmod x7_16 a0_0), .int .i64 (wrap64 (Int.tdiv x7_16 a0_0))] 43 (0, 0)) (by (with_reducible repeat (first | refine zM ?_ _ | refine zN ?_ | refine zO ?_ _)); refine blk_put (cs := #[.int .i64 (Int.tmod x7_16 a0_0), .int .i64 0]) ?_ 1 _ rfl; (with_reducible repeat (first | refine zM ?_ _ | refine zN ?_ | refine zO ?_ _)); refine blk_put (cs := #[.int .i64 0, .int .i64 0]) ?_ 0 _ rfl; (with_reducible repeat (first | refine zM ?_ _ | refine zN ?_ | refine zO ?_ _)); exact BK145.out)) : gb145 ≠ gb146)); have n12_ := zA ((by rw [hg]; exact Nat.ne_of_gt (blk_lt (g := gb145) (o := .cells #[.int .i64 (Int.tmod x7_16 a0_0), .int .i64 (wrap64 (Int.tdiv x7_16 a0_0))] 43 (0, 0)) (by (with_reducible repeat (first | refine zM ?_ _ | refine zN ?_ | refine zO ?_ _)); refine blk_put (cs := #[.int .i64 (Int.tmod x7_16 a0_0), .int .i64 0]) ?_ 1 _ rfl; (with_reducible repeat (first | refine zM ?_ _ | refine zN ?_ | refine zO ?_ _)); refine blk_put (cs := #[.int .i64 0, .int .i64 0]) ?_ 0 _ rfl; (with_reducible repeat (first | refine zM ?_ _ | refine zN ?_ | refine zO ?_ _)); exact BK145.out)) : gb146 ≠ gb145)); clear BK141; clear BK142; clear BK145; clear HB; have BK141 := n0_; have BK142 := n1_; have BK145 := n2_; have HB := n3_; have BK146 := n4_; have GW146 := n5_; have GE146 := n6_; have NB141_146 := n7_; have NB146_141 := n8_; have NB142_146 := n9_; have NB146_142 := n10_; have NB145_146 := n11_; have NB146_145 := n12_; clear n0_ n1_ n2_ n3_ n4_ n5_ n6_ n7_ n8_ n9_ n10_ n11_ n12_; clear hb hbox hg; have hnb38 := NB146_141.out; have hnc38 := NB141_146.out; have hnb39 := NB146_142.out; have hnc39 := NB142_146.out; have hnb40 := NB146_145.out; have hnc40 := NB145_146.out; have hcz41_0 : w37.cell? ⟨gb146, 0, none⟩ = some (.int .i64 0) := (blk_cell BK146.out 0).trans rfl; have hcz41_1 : w37.cell? ⟨gb146, 1, none⟩ = some (.int .i64 0) := (blk_cell BK146.out 1).trans rfl; have hfz41_0 := blk_frozen BK146.out 0; have hfz41_1 := blk_frozen BK146.out 1) | ((with_reducible refine gate_dst (N := 12) rfl ?_); refine box_event ?hg (N := 12) ?hd (cs := #[.int .i64 0, .int .i64 0, .int .i64 0, .int .i64 0, .int .i64 0, .int .i64 0, .int .i64 0, .int .i64 0]) (t := 70) ?hr ?_; (case hd => rfl); (case hg => rfl); (case hr => first | (go_simp; done) | (go_simp; rfl)); intro gA12 hg wA12 hbox hb; have hcA_0 : wA12.cell? ⟨gA12, 0, none⟩ = some (.int .i64 0) := (blk_cell hbox 0).trans rfl; have hcA_1 : wA12.cell? ⟨gA12, 1, none⟩ = some (.int .i64 0) := (blk_cell hbox 1).trans rfl; have hcA_2 : wA12.cell? ⟨gA12, 2, none⟩ = some (.int .i64 0) := (blk_cell hbox 2).trans rfl; have hcA_3 : wA12.cell? ⟨gA12, 3, none⟩ = some (.int .i64 0) := (blk_cell hbox 3).trans rfl; have hcA_4 : wA12.cell? ⟨gA12, 4, none⟩ = some (.int .i64 0) := (blk_cell hbox 4).trans rfl; have hcA_5 : wA12.cell? ⟨gA12, 5, none⟩ = some (.int .i64 0) := (blk_cell hbox 5).trans rfl; have hcA_6 : wA12.cell? ⟨gA12, 6, none⟩ = some (.int .i64 0) := (blk_cell hbox 6).trans rfl; have hcA_7 : wA12.cell? ⟨gA12, 7, none⟩ = some (.int .i64 0) := (blk_cell hbox 7).trans rfl; have hfA_0 := blk_frozen hbox 0; have hfA_1 := blk_frozen hbox 1; have hfA_2 := blk_frozen hbox 2; have hfA_3 := blk_frozen hbox 3; have hfA_4 := blk_frozen hbox 4; have hfA_5 := blk_frozen hbox 5; have hfA_6 := blk_frozen hbox 6; have hfA_7 := blk_frozen hbox 7; have Hg_ := zA hg; have Hx_ := zA hbox; have Hb_ := zA hb; clear hg hbox hb; (with_reducible refine gate_store (t := 70) (p := 12) rfl ?_); refine store_event (t := 70) (p := 12) (v := ?vo_A12) (w1 := ((((((((wA12.setCell ⟨gA12, 0, none⟩ (.int .i64 1)).setCell ⟨gA12, 1, none⟩ (.int .i64 0)).setCell ⟨gA12, 2, none⟩ (.int .i64 0)).setCell ⟨gA12, 3, none⟩ (.int .i64 1)).setCell ⟨gA12, 4, none⟩ (.int .i64 (-1))).setCell ⟨gA12, 5, none⟩ (.int .i64 0)).setCell ⟨gA12, 6, none⟩ (.int .i64 0)).setCell ⟨gA12, 7, none⟩ (.int .i64 (-1)))) ?hg ?ho ?hn ?hr ?_; (case ho => rfl); (case hg => rfl); (case hn => rfl); (case hr => first | (go_simp; done) | (go_simp; rfl)); intro w42 hw; have hg := Hg_.out; have hbox := Hx_.out; have hb := Hb_.out; clear Hg_ Hx_ Hb_; replace hb := zS (g := gA12) (j := 0) (v := .int .i64 1) hb (Nat.le_of_eq hg.symm); replace hb := zS (g := gA12) (j := 1) (v := .int .i64 0) hb (Nat.le_of_eq hg.symm); replace hb := zS (g := gA12) (j := 2) (v := .int .i64 0) hb (Nat.le_of_eq hg.symm); replace hb := zS (g := gA12) (j := 3) (v := .int .i64 1) hb (Nat.le_of_eq hg.symm); replace hb := zS (g := gA12) (j := 4) (v := .int .i64 (-1)) hb (Nat.le_of_eq hg.symm); replace hb := zS (g := gA12) (j := 5) (v := .int .i64 0) hb (Nat.le_of_eq hg.symm); replace hb := zS (g := gA12) (j := 6) (v := .int .i64 0) hb (Nat.le_of_eq hg.symm); replace hb := zS (g := gA12) (j := 7) (v := .int .i64 (-1)) hb (Nat.le_of_eq hg.symm); rw [← hw] at hb; obtain ⟨v148, hv_, ho43⟩ := Kd.R_arr k43 (W := w42) (e := 70) (inner := #[.int .i64 1, .int .i64 0, .int .i64 0, .int .i64 1, .int .i64 (-1), .int .i64 0, .int .i64 0, .int .i64 (-1)]) (xs := ([(⟨1, 0⟩ : S43), (⟨0, 1⟩ : S43), (⟨(-1), 0⟩ : S43), (⟨0, (-1)⟩ : S43)] : List (S43))) (by rw [hw]; exact (blk_put (cs := #[.int .i64 1, .int .i64 0, .int .i64 0, .int .i64 1, .int .i64 (-1), .int .i64 0, .int .i64 0, .int .i64 0]) (blk_put (cs := #[.int .i64 1, .int .i64 0, .int .i64 0, .int .i64 1, .int .i64 (-1), .int .i64 0, .int .i64 0, .int .i64 0]) (blk_put (cs := #[.int .i64 1, .int .i64 0, .int .i64 0, .int .i64 1, .int .i64 (-1), .int .i64 0, .int .i64 0, .int .i64 0]) (blk_put (cs := #[.int .i64 1, .int .i64 0, .int .i64 0, .int .i64 1, .int .i64 0, .int .i64 0, .int .i64 0, .int .i64 0]) (blk_put (cs := #[.int .i64 1, .int .i64 0, .int .i64 0, .int .i64 0, .int .i64 0, .int .i64 0, .int .i64 0, .int .i64 0]) (blk_put (cs := #[.int .i64 1, .int .i64 0, .int .i64 0, .int .i64 0, .int .i64 0, .int .i64 0, .int .i64 0, .int .i64 0]) (blk_put (cs := #[.int .i64 1, .int .i64 0, .int .i64 0, .int .i64 0, .int .i64 0, .int .i64 0, .int .i64 0, .int .i64 0]) (blk_put (cs := #[.int .i64 0, .int .i64 0, .int .i64 0, .int .i64 0, .int .i64 0, .int .i64 0, .int .i64 0, .int .i64 0]) hbox 0 (.int .i64 1) rfl) 1 (.int .i64 0) rfl) 2 (.int .i64 0) rfl) 3 (.int .i64 1) rfl) 4 (.int .i64 (-1)) rfl) 5 (.int .i64 0) rfl) 6 (.int .i64 0) rfl) 7 (.int .i64 (-1)) rfl)) (Nat.le_of_eq hg.symm) (by simp) (Reps.c2 (show Kd.M k43 _ _ _ (⟨1, 0⟩ : S43) [.int .i64 1, .int .i64 0] from (k43_mkM _ _ _ (⟨1, 0⟩ : S43) )) (Reps.c2 (show Kd.M k43 _ _ _ (⟨0, 1⟩ : S43) [.int .i64 0, .int .i64 1] from (k43_mkM _ _ _ (⟨0, 1⟩ : S43) )) (Reps.c2 (show Kd.M k43 _ _ _ (⟨(-1), 0⟩ : S43) [.int .i64 (-1), .int .i64 0] from (k43_mkM _ _ _ (⟨(-1), 0⟩ : S43) )) (Reps.c2 (show Kd.M k43 _ _ _ (⟨0, (-1)⟩ : S43) [.int .i64 0, .int .i64 (-1)] from (k43_mkM _ _ _ (⟨0, (-1)⟩ : S43) )) (Reps.none _ _))))); have HV12_ := zA hv_; clear hv_ hw; clear hcA_0 hfA_0; clear hcA_1 hfA_1; clear hcA_2 hfA_2; clear hcA_3 hfA_3; clear hcA_4 hfA_4; clear hcA_5 hfA_5; clear hcA_6 hfA_6; clear hcA_7 hfA_7; clear hbox hg; (first | rw [← Ny147.out] at ho43 | (simp only [Int.reduceToNat] at ho43; rw [← Ny147.out] at ho43)); have n0_ := zA (Kd.R_lower (Kd.R_newB (Kd.R_newB (Kd.R_newB ho43 (g := gb142) (o := .cells #[.int .i64 a1] 3 (0, 0)) (bD_ BK142)) (g := gb145) (o := .cells #[.int .i64 (Int.tmod x7_16 a0_0), .int .i64 (wrap64 (Int.tdiv x7_16 a0_0))] 43 (0, 0)) (bD_ BK145)) (g := gb146) (o := .cells #[.int .i64 (Int.tmod x7_16 a0_0), .int .i64 (wrap64 (Int.tdiv x7_16 a0_0))] 43 (0, 0)) (by (with_reducible repeat (first | refine zM ?_ _ | refine zN ?_ | refine zO ?_ _)); refine blk_put (cs := #[.int .i64 (Int.tmod x7_16 a0_0), .int .i64 0]) ?_ 1 _ rfl; (with_reducible repeat (first | refine zM ?_ _ | refine zN ?_ | refine zO ?_ _)); refine blk_put (cs := #[.int .i64 0, .int .i64 0]) ?_ 0 _ rfl; (with_reducible repeat (first | refine zM ?_ _ | refine zN ?_ | refine zO ?_ _)); exact BK146.out)) (zT (bB_ HB))); have n1_ := zA (zU (g := gb141) (o := .cells #[.int .i64 a0_0, .int .i64 a0_1, .slice A0_2 l0_2.length c0_2] 26 (0, 0)) (bD_ BK141) hb); have n2_ := zA (zU (g := gb142) (o := .cells #[.int .i64 a1] 3 (0, 0)) (bD_ BK142) hb); have n3_ := zA (zU (g := gb145) (o := .cells #[.int .i64 (Int.tmod x7_16 a0_0), .int .i64 (wrap64 (Int.tdiv x7_16 a0_0))] 43 (0, 0)) (bD_ BK145) hb); have n4_ := zA (zU (g := gb146) (o := .cells #[.int .i64 (Int.tmod x7_16 a0_0), .int .i64 (wrap64 (Int.tdiv x7_16 a0_0))] 43 (0, 0)) (by (with_reducible repeat (first | refine zM ?_ _ | refine zN ?_ | refine zO ?_ _)); refine blk_put (cs := #[.int .i64 (Int.tmod x7_16 a0_0), .int .i64 0]) ?_ 1 _ rfl; (with_reducible repeat (first | refine zM ?_ _ | refine zN ?_ | refine zO ?_ _)); refine blk_put (cs := #[.int .i64 0, .int .i64 0]) ?_ 0 _ rfl; (with_reducible repeat (first | refine zM ?_ _ | refine zN ?_ | refine zO ?_ _)); exact BK146.out) hb); have n5_ := zA (below_step (bB_ HB) hb); clear BK141; clear BK142; clear BK145; clear BK146; clear HB; have HO149 := n0_; have BK141 := n1_; have BK142 := n2_; have BK145 := n3_; have BK146 := n4_; have HB := n5_; clear n0_ n1_ n2_ n3_ n4_ n5_; clear hb ho43) | ((with_reducible refine gate_dst (N := 13) rfl ?_); refine box_event ?hg (N := 13) ?hd (cs := #[.int .i64 0, .int .i64 0, .int .i64 0, .int .i64 0, .int .i64 0, .int .i64 0, .int .i64 0, .int .i64 0]) (t := 70) ?hr ?_; (case hd => rfl); (case hg => rfl); (case hr => first | (go_simp; done) | (go_simp; rfl)); intro gA13 hg wA13 hbox hb; have hcA_0 : wA13.cell? ⟨gA13, 0, none⟩ = some (.int .i64 0) := (blk_cell hbox 0).trans rfl; have hcA_1 : wA13.cell? ⟨gA13, 1, none⟩ = some (.int .i64 0) := (blk_cell hbox 1).trans rfl; have hcA_2 : wA13.cell? ⟨gA13, 2, none⟩ = some (.int .i64 0) := (blk_cell hbox 2).trans rfl; have hcA_3 : wA13.cell? ⟨gA13, 3, none⟩ = some (.int .i64 0) := (blk_cell hbox 3).trans rfl; have hcA_4 : wA13.cell? ⟨gA13, 4, none⟩ = some (.int .i64 0) := (blk_cell hbox 4).trans rfl; have hcA_5 : wA13.cell? ⟨gA13, 5, none⟩ = some (.int .i64 0) := (blk_cell hbox 5).trans rfl; have hcA_6 : wA13.cell? ⟨gA13, 6, none⟩ = some (.int .i64 0) := (blk_cell hbox 6).trans rfl; have hcA_7 : wA13.cell? ⟨gA13, 7, none⟩ = some (.int .i64 0) := (blk_cell hbox 7).trans rfl; have hfA_0 := blk_frozen hbox 0; have hfA_1 := blk_frozen hbox 1; have hfA_2 := blk_frozen hbox 2; have hfA_3 := blk_frozen hbox 3; have hfA_4 := blk_frozen hbox 4; have hfA_5 := blk_frozen hbox 5; have hfA_6 := blk_frozen hbox 6; have hfA_7 := blk_frozen hbox 7; have Hg_ := zA hg; have Hx_ := zA hbox; have Hb_ := zA hb; clear hg hbox hb; (with_reducible refine gate_store (t := 70) (p := 13) rfl ?_); refine store_event (t := 70) (p := 13) (v := ?vo_A13) (w1 := ((((((((wA13.setCell ⟨gA13, 0, none⟩ (.int .i64 0)).setCell ⟨gA13, 1, none⟩ (.int .i64 0)).setCell ⟨gA13, 2, none⟩ (.int .i64 (-1))).setCell ⟨gA13, 3, none⟩ (.int .i64 0)).setCell ⟨gA13, 4, none⟩ (.int .i64 (-1))).setCell ⟨gA13, 5, none⟩ (.int .i64 (-1))).setCell ⟨gA13, 6, none⟩ (.int .i64 0)).setCell ⟨gA13, 7, none⟩ (.int .i64 (-1)))) ?hg ?ho ?hn ?hr ?_; (case ho => rfl); (case hg => rfl); (case hn => rfl); (case hr => first | (go_simp; done) | (go_simp; rfl)); intro w44 hw; have hg := Hg_.out; have hbox := Hx_.out; have hb := Hb_.out; clear Hg_ Hx_ Hb_; replace hb := zS (g := gA13) (j := 0) (v := .int .i64 0) hb (Nat.le_of_eq hg.symm); replace hb := zS (g := gA13) (j := 1) (v := .int .i64 0) hb (Nat.le_of_eq hg.symm); replace hb := zS (g := gA13) (j := 2) (v := .int .i64 (-1)) hb (Nat.le_of_eq hg.symm); replace hb := zS (g := gA13) (j := 3) (v := .int .i64 0) hb (Nat.le_of_eq hg.symm); replace hb := zS (g := gA13) (j := 4) (v := .int .i64 (-1)) hb (Nat.le_of_eq hg.symm); replace hb := zS (g := gA13) (j := 5) (v := .int .i64 (-1)) hb (Nat.le_of_eq hg.symm); replace hb := zS (g := gA13) (j := 6) (v := .int .i64 0) hb (Nat.le_of_eq hg.symm); replace hb := zS (g := gA13) (j := 7) (v := .int .i64 (-1)) hb (Nat.le_of_eq hg.symm); rw [← hw] at hb; obtain ⟨v151, hv_, ho45⟩ := Kd.R_arr k43 (W := w44) (e := 70) (inner := #[.int .i64 0, .int .i64 0, .int .i64 (-1), .int .i64 0, .int .i64 (-1), .int .i64 (-1), .int .i64 0, .int .i64 (-1)]) (xs := ([(⟨0, 0⟩ : S43), (⟨(-1), 0⟩ : S43), (⟨(-1), (-1)⟩ : S43), (⟨0, (-1)⟩ : S43)] : List (S43))) (by rw [hw]; exact (blk_put (cs := #[.int .i64 0, .int .i64 0, .int .i64 (-1), .int .i64 0, .int .i64 (-1), .int .i64 (-1), .int .i64 0, .int .i64 0]) (blk_put (cs := #[.int .i64 0, .int .i64 0, .int .i64 (-1), .int .i64 0, .int .i64 (-1), .int .i64 (-1), .int .i64 0, .int .i64 0]) (blk_put (cs := #[.int .i64 0, .int .i64 0, .int .i64 (-1), .int .i64 0, .int .i64 (-1), .int .i64 0, .int .i64 0, .int .i64 0]) (blk_put (cs := #[.int .i64 0, .int .i64 0, .int .i64 (-1), .int .i64 0, .int .i64 0, .int .i64 0, .int .i64 0, .int .i64 0]) (blk_put (cs := #[.int .i64 0, .int .i64 0, .int .i64 (-1), .int .i64 0, .int .i64 0, .int .i64 0, .int .i64 0, .int .i64 0]) (blk_put (cs := #[.int .i64 0, .int .i64 0, .int .i64 0, .int .i64 0, .int .i64 0, .int .i64 0, .int .i64 0, .int .i64 0]) (blk_put (cs := #[.int .i64 0, .int .i64 0, .int .i64 0, .int .i64 0, .int .i64 0, .int .i64 0, .int .i64 0, .int .i64 0]) (blk_put (cs := #[.int .i64 0, .int .i64 0, .int .i64 0, .int .i64 0, .int .i64 0, .int .i64 0, .int .i64 0, .int .i64 0]) hbox 0 (.int .i64 0) rfl) 1 (.int .i64 0) rfl) 2 (.int .i64 (-1)) rfl) 3 (.int .i64 0) rfl) 4 (.int .i64 (-1)) rfl) 5 (.int .i64 (-1)) rfl) 6 (.int .i64 0) rfl) 7 (.int .i64 (-1)) rfl)) (Nat.le_of_eq hg.symm) (by simp) (Reps.c2 (show Kd.M k43 _ _ _ (⟨0, 0⟩ : S43) [.int .i64 0, .int .i64 0] from (k43_mkM _ _ _ (⟨0, 0⟩ : S43) )) (Reps.c2 (show Kd.M k43 _ _ _ (⟨(-1), 0⟩ : S43) [.int .i64 (-1), .int .i64 0] from (k43_mkM _ _ _ (⟨(-1), 0⟩ : S43) )) (Reps.c2 (show Kd.M k43 _ _ _ (⟨(-1), (-1)⟩ : S43) [.int .i64 (-1), .int .i64 (-1)] from (k43_mkM _ _ _ (⟨(-1), (-1)⟩ : S43) )) (Reps.c2 (show Kd.M k43 _ _ _ (⟨0, (-1)⟩ : S43) [.int .i64 0, .int .i64 (-1)] from (k43_mkM _ _ _ (⟨0, (-1)⟩ : S43) )) (Reps.none _ _))))); have HV13_ := zA hv_; clear hv_ hw; clear hcA_0 hfA_0; clear hcA_1 hfA_1; clear hcA_2 hfA_2; clear hcA_3 hfA_3; clear hcA_4 hfA_4; clear hcA_5 hfA_5; clear hcA_6 hfA_6; clear hcA_7 hfA_7; clear hbox hg; (first | rw [← Ny150.out] at ho45 | (simp only [Int.reduceToNat] at ho45; rw [← Ny150.out] at ho45)); have n0_ := zA (Kd.R_elder' (bC_ HO149) (Kd.R_base ho45) hb); have n1_ := zA (Kd.R_lower (Kd.R_newB (Kd.R_newB (Kd.R_newB (Kd.R_new' ho45 (Kd.R_lt (bC_ HO149))) (g := gb142) (o := .cells #[.int .i64 a1] 3 (0, 0)) (bA_ BK142)) (g := gb145) (o := .cells #[.int .i64 (Int.tmod x7_16 a0_0), .int .i64 (wrap64 (Int.tdiv x7_16 a0_0))] 43 (0, 0)) (bA_ BK145)) (g := gb146) (o := .cells #[.int .i64 (Int.tmod x7_16 a0_0), .int .i64 (wrap64 (Int.tdiv x7_16 a0_0))] 43 (0, 0)) (bA_ BK146)) (zT (bB_ HB))); have n2_ := zA (zU (g := gb141) (o := .cells #[.int .i64 a0_0, .int .i64 a0_1, .slice A0_2 l0_2.length c0_2] 26 (0, 0)) (bA_ BK141) hb); have n3_ := zA (zU (g := gb142) (o := .cells #[.int .i64 a1] 3 (0, 0)) (bA_ BK142) hb); have n4_ := zA (zU (g := gb145) (o := .cells #[.int .i64 (Int.tmod x7_16 a0_0), .int .i64 (wrap64 (Int.tdiv x7_16 a0_0))] 43 (0, 0)) (bA_ BK145) hb); have n5_ := zA (zU (g := gb146) (o := .cells #[.int .i64 (Int.tmod x7_16 a0_0), .int .i64 (wrap64 (Int.tdiv x7_16 a0_0))] 43 (0, 0)) (bA_ BK146) hb); have n6_ := zA (below_step (bB_ HB) hb); clear HO149; clear BK141; clear BK142; clear BK145; clear BK146; clear HB; have HO149 := n0_; have HO152 := n1_; have BK141 := n2_; have BK142 := n3_; have BK145 := n4_; have BK146 := n5_; have HB := n6_; clear n0_ n1_ n2_ n3_ n4_ n5_ n6_; clear hb ho45) | ((with_reducible refine gate_dst (N := 14) rfl ?_); refine box_event ?hg (N := 14) ?hd (cs := #[.int .i64 0, .int .i64 0, .int .i64 0, .int .i64 0, .int .i64 0, .int .i64 0, .int .i64 0, .int .i64 0]) (t := 70) ?hr ?_; (case hd => rfl); (case hg => rfl); (case hr => first | (go_simp; done) | (go_simp; rfl)); intro gA14 hg wA14 hbox hb; have hcA_0 : wA14.cell? ⟨gA14, 0, none⟩ = some (.int .i64 0) := (blk_cell hbox 0).trans rfl; have hcA_1 : wA14.cell? ⟨gA14, 1, none⟩ = some (.int .i64 0) := (blk_cell hbox 1).trans rfl; have hcA_2 : wA14.cell? ⟨gA14, 2, none⟩ = some (.int .i64 0) := (blk_cell hbox 2).trans rfl; have hcA_3 : wA14.cell? ⟨gA14, 3, none⟩ = some (.int .i64 0) := (blk_cell hbox 3).trans rfl; have hcA_4 : wA14.cell? ⟨gA14, 4, none⟩ = some (.int .i64 0) := (blk_cell hbox 4).trans rfl; have hcA_5 : wA14.cell? ⟨gA14, 5, none⟩ = some (.int .i64 0) := (blk_cell hbox 5).trans rfl; have hcA_6 : wA14.cell? ⟨gA14, 6, none⟩ = some (.int .i64 0) := (blk_cell hbox 6).trans rfl; have hcA_7 : wA14.cell? ⟨gA14, 7, none⟩ = some (.int .i64 0) := (blk_cell hbox 7).trans rfl; have hfA_0 := blk_frozen hbox 0; have hfA_1 := blk_frozen hbox 1; have hfA_2 := blk_frozen hbox 2; have hfA_3 := blk_frozen hbox 3; have hfA_4 := blk_frozen hbox 4; have hfA_5 := blk_frozen hbox 5; have hfA_6 := blk_frozen hbox 6; have hfA_7 := blk_frozen hbox 7; have Hg_ := zA hg; have Hx_ := zA hbox; have Hb_ := zA hb; clear hg hbox hb; (with_reducible refine gate_store (t := 70) (p := 14) rfl ?_); refine store_event (t := 70) (p := 14) (v := ?vo_A14) (w1 := ((((((((wA14.setCell ⟨gA14, 0, none⟩ (.int .i64 0)).setCell ⟨gA14, 1, none⟩ (.int .i64 (-1))).setCell ⟨gA14, 2, none⟩ (.int .i64 0)).setCell ⟨gA14, 3, none⟩ (.int .i64 0)).setCell ⟨gA14, 4, none⟩ (.int .i64 (-1))).setCell ⟨gA14, 5, none⟩ (.int .i64 0)).setCell ⟨gA14, 6, none⟩ (.int .i64 (-1))).setCell ⟨gA14, 7, none⟩ (.int .i64 (-1)))) ?hg ?ho ?hn ?hr ?_; (case ho => rfl); (case hg => rfl); (case hn => rfl); (case hr => first | (go_simp; done) | (go_simp; rfl)); intro w46 hw; have hg := Hg_.out; have hbox := Hx_.out; have hb := Hb_.out; clear Hg_ Hx_ Hb_; replace hb := zS (g := gA14) (j := 0) (v := .int .i64 0) hb (Nat.le_of_eq hg.symm); replace hb := zS (g := gA14) (j := 1) (v := .int .i64 (-1)) hb (Nat.le_of_eq hg.symm); replace hb := zS (g := gA14) (j := 2) (v := .int .i64 0) hb (Nat.le_of_eq hg.symm); replace hb := zS (g := gA14) (j := 3) (v := .int .i64 0) hb (Nat.le_of_eq hg.symm); replace hb := zS (g := gA14) (j := 4) (v := .int .i64 (-1)) hb (Nat.le_of_eq hg.symm); replace hb := zS (g := gA14) (j := 5) (v := .int .i64 0) hb (Nat.le_of_eq hg.symm); replace hb := zS (g := gA14) (j := 6) (v := .int .i64 (-1)) hb (Nat.le_of_eq hg.symm); replace hb := zS (g := gA14) (j := 7) (v := .int .i64 (-1)) hb (Nat.le_of_eq hg.symm); rw [← hw] at hb; obtain ⟨v154, hv_, ho47⟩ := Kd.R_arr k43 (W := w46) (e := 70) (inner := #[.int .i64 0, .int .i64 (-1), .int .i64 0, .int .i64 0, .int .i64 (-1), .int .i64 0, .int .i64 (-1), .int .i64 (-1)]) (xs := ([(⟨0, (-1)⟩ : S43), (⟨0, 0⟩ : S43), (⟨(-1), 0⟩ : S43), (⟨(-1), (-1)⟩ : S43)] : List (S43))) (by rw [hw]; exact (blk_put (cs := #[.int .i64 0, .int .i64 (-1), .int .i64 0, .int .i64 0, .int .i64 (-1), .int .i64 0, .int .i64 (-1), .int .i64 0]) (blk_put (cs := #[.int .i64 0, .int .i64 (-1), .int .i64 0, .int .i64 0, .int .i64 (-1), .int .i64 0, .int .i64 0, .int .i64 0]) (blk_put (cs := #[.int .i64 0, .int .i64 (-1), .int .i64 0, .int .i64 0, .int .i64 (-1), .int .i64 0, .int .i64 0, .int .i64 0]) (blk_put (cs := #[.int .i64 0, .int .i64 (-1), .int .i64 0, .int .i64 0, .int .i64 0, .int .i64 0, .int .i64 0, .int .i64 0]) (blk_put (cs := #[.int .i64 0, .int .i64 (-1), .int .i64 0, .int .i64 0, .int .i64 0, .int .i64 0, .int .i64 0, .int .i64 0]) (blk_put (cs := #[.int .i64 0, .int .i64 (-1), .int .i64 0, .int .i64 0, .int .i64 0, .int .i64 0, .int .i64 0, .int .i64 0]) (blk_put (cs := #[.int .i64 0, .int .i64 0, .int .i64 0, .int .i64 0, .int .i64 0, .int .i64 0, .int .i64 0, .int .i64 0]) (blk_put (cs := #[.int .i64 0, .int .i64 0, .int .i64 0, .int .i64 0, .int .i64 0, .int .i64 0, .int .i64 0, .int .i64 0]) hbox 0 (.int .i64 0) rfl) 1 (.int .i64 (-1)) rfl) 2 (.int .i64 0) rfl) 3 (.int .i64 0) rfl) 4 (.int .i64 (-1)) rfl) 5 (.int .i64 0) rfl) 6 (.int .i64 (-1)) rfl) 7 (.int .i64 (-1)) rfl)) (Nat.le_of_eq hg.symm) (by simp) (Reps.c2 (show Kd.M k43 _ _ _ (⟨0, (-1)⟩ : S43) [.int .i64 0, .int .i64 (-1)] from (k43_mkM _ _ _ (⟨0, (-1)⟩ : S43) )) (Reps.c2 (show Kd.M k43 _ _ _ (⟨0, 0⟩ : S43) [.int .i64 0, .int .i64 0] from (k43_mkM _ _ _ (⟨0, 0⟩ : S43) )) (Reps.c2 (show Kd.M k43 _ _ _ (⟨(-1), 0⟩ : S43) [.int .i64 (-1), .int .i64 0] from (k43_mkM _ _ _ (⟨(-1), 0⟩ : S43) )) (Reps.c2 (show Kd.M k43 _ _ _ (⟨(-1), (-1)⟩ : S43) [.int .i64 (-1), .int .i64 (-1)] from (k43_mkM _ _ _ (⟨(-1), (-1)⟩ : S43) )) (Reps.none _ _))))); have HV14_ := zA hv_; clear hv_ hw; clear hcA_0 hfA_0; clear hcA_1 hfA_1; clear hcA_2 hfA_2; clear hcA_3 hfA_3; clear hcA_4 hfA_4; clear hcA_5 hfA_5; clear hcA_6 hfA_6; clear hcA_7 hfA_7; clear hbox hg; (first | rw [← Ny153.out] at ho47 | (simp only [Int.reduceToNat] at ho47; rw [← Ny153.out] at ho47)); have n0_ := zA (Kd.R_elder' (bC_ HO149) (Kd.R_base ho47) hb); have n1_ := zA (Kd.R_elder' (bC_ HO152) (Kd.R_base ho47) hb); have n2_ := zA (Kd.R_lower (Kd.R_newB (Kd.R_newB (Kd.R_newB (Kd.R_new' (Kd.R_new' ho47 (Kd.R_lt (bC_ HO149))) (Kd.R_lt (bC_ HO152))) (g := gb142) (o := .cells #[.int .i64 a1] 3 (0, 0)) (bA_ BK142)) (g := gb145) (o := .cells #[.int .i64 (Int.tmod x7_16 a0_0), .int .i64 (wrap64 (Int.tdiv x7_16 a0_0))] 43 (0, 0)) (bA_ BK145)) (g := gb146) (o := .cells #[.int .i64 (Int.tmod x7_16 a0_0), .int .i64 (wrap64 (Int.tdiv x7_16 a0_0))] 43 (0, 0)) (bA_ BK146)) (zT (bB_ HB))); have n3_ := zA (zU (g := gb141) (o := .cells #[.int .i64 a0_0, .int .i64 a0_1, .slice A0_2 l0_2.length c0_2] 26 (0, 0)) (bA_ BK141) hb); have n4_ := zA (zU (g := gb142) (o := .cells #[.int .i64 a1] 3 (0, 0)) (bA_ BK142) hb); have n5_ := zA (zU (g := gb145) (o := .cells #[.int .i64 (Int.tmod x7_16 a0_0), .int .i64 (wrap64 (Int.tdiv x7_16 a0_0))] 43 (0, 0)) (bA_ BK145) hb); have n6_ := zA (zU (g := gb146) (o := .cells #[.int .i64 (Int.tmod x7_16 a0_0), .int .i64 (wrap64 (Int.tdiv x7_16 a0_0))] 43 (0, 0)) (bA_ BK146) hb); have n7_ := zA (below_step (bB_ HB) hb); clear HO149; clear HO152; clear BK141; clear BK142; clear BK145; clear BK146; clear HB; have HO149 := n0_; have HO152 := n1_; have HO155 := n2_; have BK141 := n3_; have BK142 := n4_; have BK145 := n5_; have BK146 := n6_; have HB := n7_; clear n0_ n1_ n2_ n3_ n4_ n5_ n6_ n7_; clear hb ho47; have hcz48_0 : w46.cell? ⟨gb145, 0, none⟩ = some (.int .i64 (Int.tmod x7_16 a0_0)) := (blk_cell BK145.out 0).trans rfl; have hcz48_1 : w46.cell? ⟨gb145, 1, none⟩ = some (.int .i64 (wrap64 (Int.tdiv x7_16 a0_0))) := (blk_cell BK145.out 1).trans rfl; have hfz48_0 := blk_frozen BK145.out 0; have hfz48_1 := blk_frozen BK145.out 1) | ((with_reducible refine gate_dst (N := 70) rfl ?_); refine Kd.R_lit k43 _ 43 ?hg (N := 70) ?hd (xs := ([(⟨Int.tmod x7_16 a0_0, wrap64 (Int.tdiv x7_16 a0_0)⟩ : S43)] : List (S43))) (inner := [.int .i64 (Int.tmod x7_16 a0_0), .int .i64 (wrap64 (Int.tdiv x7_16 a0_0))]) (ok := fun _ => True) (okp := fun _ => True) ?hr ?hp (fun _ hk => hk) trivial (Below.refl _ _) (Nat.le_refl _) (by simp) ?_; (case hd => rfl); (case hg => rfl); (case hr => first | (go_simp; done) | (go_simp; rfl)); (case hp => exact (Reps.c2 (show Kd.M k43 _ _ _ (⟨Int.tmod x7_16 a0_0, wrap64 (Int.tdiv x7_16 a0_0)⟩ : S43) [.int .i64 (Int.tmod x7_16 a0_0), .int .i64 (wrap64 (Int.tdiv x7_16 a0_0))] from (k43_mkM _ _ _ (⟨Int.tmod x7_16 a0_0, wrap64 (Int.tdiv x7_16 a0_0)⟩ : S43) )) (Reps.none _ _))); intro v157 w49 ho50 hb hg_ hnew_; clear hg_ hnew_; (first | rw [← Ny156.out] at ho50 | (simp only [Int.reduceToNat] at ho50; rw [← Ny156.out] at ho50)); have n0_ := zA (Kd.R_elder' (bC_ HO149) (Kd.R_base ho50) hb); have n1_ := zA (Kd.R_elder' (bC_ HO152) (Kd.R_base ho50) hb); have n2_ := zA (Kd.R_elder' (bC_ HO155) (Kd.R_base ho50) hb); have n3_ := zA (Kd.R_lower (Kd.R_newB (Kd.R_newB (Kd.R_newB (Kd.R_new' (Kd.R_new' (Kd.R_new' ho50 (Kd.R_lt (bC_ HO149))) (Kd.R_lt (bC_ HO152))) (Kd.R_lt (bC_ HO155))) (g := gb142) (o := .cells #[.int .i64 a1] 3 (0, 0)) (bA_ BK142)) (g := gb145) (o := .cells #[.int .i64 (Int.tmod x7_16 a0_0), .int .i64 (wrap64 (Int.tdiv x7_16 a0_0))] 43 (0, 0)) (bA_ BK145)) (g := gb146) (o := .cells #[.int .i64 (Int.tmod x7_16 a0_0), .int .i64 (wrap64 (Int.tdiv x7_16 a0_0))] 43 (0, 0)) (bA_ BK146)) (zT (bB_ HB))); have n4_ := zA (zU (g := gb141) (o := .cells #[.int .i64 a0_0, .int .i64 a0_1, .slice A0_2 l0_2.length c0_2] 26 (0, 0)) (bA_ BK141) hb); have n5_ := zA (zU (g := gb142) (o := .cells #[.int .i64 a1] 3 (0, 0)) (bA_ BK142) hb); have n6_ := zA (zU (g := gb145) (o := .cells #[.int .i64 (Int.tmod x7_16 a0_0), .int .i64 (wrap64 (Int.tdiv x7_16 a0_0))] 43 (0, 0)) (bA_ BK145) hb); have n7_ := zA (zU (g := gb146) (o := .cells #[.int .i64 (Int.tmod x7_16 a0_0), .int .i64 (wrap64 (Int.tdiv x7_16 a0_0))] 43 (0, 0)) (bA_ BK146) hb); have n8_ := zA (below_step (bB_ HB) hb); clear HO149; clear HO152; clear HO155; clear BK141; clear BK142; clear BK145; clear BK146; clear HB; have HO149 := n0_; have HO152 := n1_; have HO155 := n2_; have HO158 := n3_; have BK141 := n4_; have BK142 := n5_; have BK145 := n6_; have BK146 := n7_; have HB := n8_; clear n0_ n1_ n2_ n3_ n4_ n5_ n6_ n7_ n8_; clear hb ho50))
         go_loopg [15, 16] kj16 (fun kq v15 v16 w' => ∃ (x15_3 : Int) (x16_3 : List (S43)) (x146000_3 : Int) (x146001_3 : Int), v15 = .int .i64 x15_3 ∧ Aside0 (impl_Contour.l1 kq y147 y150 y153 x15_3 x16_3 a0_0 a0_1 l0_2 a1 0 x146000_3 x146001_3 (Int.tmod x7_16 a0_0) (wrap64 (Int.tdiv x7_16 a0_0)) = some (r1, r2)) ∧ Aside0 (kq ≤ kj16) ∧ Aside0 (Kd.R k43 70 w' w.heap.size (fun k_ => some k_ ≠ (v151 : Value).ownBlock ∧ some k_ ≠ (v154 : Value).ownBlock ∧ some k_ ≠ (v16 : Value).ownBlock ∧ k_ ≠ gb142 ∧ k_ ≠ gb145 ∧ k_ ≠ gb146) v148 y147) ∧ Aside0 (Kd.R k43 70 w' w.heap.size (fun k_ => some k_ ≠ (v148 : Value).ownBlock ∧ some k_ ≠ (v154 : Value).ownBlock ∧ some k_ ≠ (v16 : Value).ownBlock ∧ k_ ≠ gb142 ∧ k_ ≠ gb145 ∧ k_ ≠ gb146) v151 y150) ∧ Aside0 (Kd.R k43 70 w' w.heap.size (fun k_ => some k_ ≠ (v148 : Value).ownBlock ∧ some k_ ≠ (v151 : Value).ownBlock ∧ some k_ ≠ (v16 : Value).ownBlock ∧ k_ ≠ gb142 ∧ k_ ≠ gb145 ∧ k_ ≠ gb146) v154 y153) ∧ Aside0 (Kd.R k43 43 w' w.heap.size (fun k_ => some k_ ≠ (v148 : Value).ownBlock ∧ some k_ ≠ (v151 : Value).ownBlock ∧ some k_ ≠ (v154 : Value).ownBlock ∧ k_ ≠ gb142 ∧ k_ ≠ gb145 ∧ k_ ≠ gb146) v16 x16_3) ∧ Aside0 (w'.heap[gb141]? = some (.cells #[.int .i64 a0_0, .int .i64 a0_1, (.slice A0_2 l0_2.length c0_2)] 26 (0, 0))) ∧ Aside0 (w'.heap[gb142]? = some (.cells #[.int .i64 a1] 3 (0, 0))) ∧ Aside0 (w'.heap[gb145]? = some (.cells #[.int .i64 x146000_3, .int .i64 x146001_3] 43 (0, 0))) ∧ Aside0 (w'.heap[gb146]? = some (.cells #[.int .i64 (Int.tmod x7_16 a0_0), .int .i64 (wrap64 (Int.tdiv x7_16 a0_0))] 43 (0, 0))) ∧ Aside0 (Below w.heap.size w w'))
         case atStart => exact ⟨(0), (y156), (Int.tmod x7_16 a0_0), (wrap64 (Int.tdiv x7_16 a0_0)), (by first | rfl | (simp; done) | (simp [*]; done)), H', ⟨Nat.le_refl _⟩, ⟨by (with_reducible repeat (first | apply zF | apply zE | apply zG)); exact Kd.R_mono HO149.out (fun _ hk => ⟨hk.1.1.2, ⟨hk.1.2, ⟨hk.2, ⟨hk.1.1.1.1.1.2, ⟨hk.1.1.1.1.2, hk.1.1.1.2⟩⟩⟩⟩⟩)⟩, ⟨by (with_reducible repeat (first | apply zF | apply zE | apply zG)); exact Kd.R_mono HO152.out (fun _ hk => ⟨hk.1.1.1.1.1.2, ⟨hk.1.2, ⟨hk.2, ⟨hk.1.1.1.1.2, ⟨hk.1.1.1.2, hk.1.1.2⟩⟩⟩⟩⟩)⟩, ⟨by (with_reducible repeat (first | apply zF | apply zE | apply zG)); exact Kd.R_mono HO155.out (fun _ hk => ⟨hk.1.1.1.1.1.2, ⟨hk.1.1.1.1.2, ⟨hk.2, ⟨hk.1.1.1.2, ⟨hk.1.1.2, hk.1.2⟩⟩⟩⟩⟩)⟩, ⟨by (with_reducible repeat (first | apply zF | apply zE | apply zG)); exact Kd.R_mono HO158.out (fun _ hk => ⟨hk.1.1.1.1.1.2, ⟨hk.1.1.1.1.2, ⟨hk.1.1.1.2, ⟨hk.1.1.2, ⟨hk.1.2, hk.2⟩⟩⟩⟩⟩)⟩, ⟨bA_ BK141⟩, ⟨bA_ BK142⟩, ⟨bA_ BK145⟩, ⟨bA_ BK146⟩, ⟨bB_ HB⟩⟩
         case round =>
          clear H'
          try clear c1
          try clear p1
          try clear q1
          try clear hx1
          try clear c2
          try clear p2
          try clear c3
          try clear c4
          try clear p6
          try clear c8
          try clear c11
          try clear c11b0
          try clear c12
          try clear c14
          try clear p14
          try clear q14
          try clear hx14
          try clear c16
          try clear c17
          try clear c18
          try clear c20
          try clear c20b0
          try clear c21
          try clear c21b0
          try clear c22
          try clear c22b0
          try clear c23
          try clear c23b0
          try clear c24
          try clear c26
          try clear c28
          try clear c28b0
          try clear c29
          try clear c29b0
          try clear c29b1
          try clear c34
          try clear c35
          try clear c38
          try clear c39
          try clear c40
          try clear c44
          try clear hcz13_0
          try clear hcz13_1
          try clear hcz15_0
          try clear hcz15_1
          try clear hcz19_0
          try clear hcz19_1
          try clear hcz19_2
          try clear hcz25_0
          try clear hcz25_1
          try clear hcz27_0
          try clear hcz27_1
          try clear hcz36_0
          try clear hcz36_1
          try clear hcz41_0
          try clear hcz41_1
          try clear hcz48_0
          try clear hcz48_1
          try clear hcz9_0
          try clear hcz9_1
          try clear hcz9_2
          try clear hfz13_0
          try clear hfz13_1
          try clear hfz15_0
          try clear hfz15_1
          try clear hfz19_0
          try clear hfz19_1
          try clear hfz19_2
          try clear hfz25_0
          try clear hfz25_1
          try clear hfz27_0
          try clear hfz27_1
          try clear hfz36_0
          try clear hfz36_1
          try clear hfz41_0
          try clear hfz41_1
          try clear hfz48_0
          try clear hfz48_1
          try clear hfz9_0
          try clear hfz9_1
          try clear hfz9_2
          try clear hx144_0
          try clear p1
          try clear p14
          try clear p144
          try clear p2
          try clear p6
          try clear q1
          try clear q14
          try clear q144
          obtain ⟨x15_3, x16_3, x146000_3, x146001_3, rfl, HA, HK3, HO_12, HO_13, HO_14, HO_16, BK141, BK142, BK145, BK146, HB⟩ := hrel
          cases gk with
          | zero => exact absurd HA.out (by simp [impl_Contour.l1])
          | succ k3 =>
           have H := HA.out
           clear HA
           simp only [impl_Contour.l1] at H
           by_cases c51 : 0 ≤ x15_3
           ·rw [if_pos c51] at H
            have c51b0 : decide (0 ≤ x15_3) = true := decide_eq_true c51
            clear c51
            by_cases c52 : x15_3 < (y147.length : Int)
            ·rw [if_pos c52] at H
             have c52b0 : decide (x15_3 < (y147.length : Int)) = true := decide_eq_true c52
             clear c52
             by_cases c53 : ((wrap64 (x146000_3 + ((rd_T43 y147 x15_3).f0))) == (Int.tmod x7_16 a0_0) && ((wrap64 (x146001_3 + ((rd_T43 y147 x15_3).f1))) == (wrap64 (Int.tdiv x7_16 a0_0)))) = true
             ·rw [if_pos c53] at H
              have c53b0 : ((wrap64 (x146000_3 + ((rd_T43 y147 x15_3).f0))) == (Int.tmod x7_16 a0_0) && ((wrap64 (x146001_3 + ((rd_T43 y147 x15_3).f1))) == (wrap64 (Int.tdiv x7_16 a0_0)))) = true := c53
              (try (have c53b1 : decide ((wrap64 (x146000_3 + ((rd_T43 y147 x15_3).f0))) = (Int.tmod x7_16 a0_0) && ((wrap64 (x146001_3 + ((rd_T43 y147 x15_3).f1))) == (wrap64 (Int.tdiv x7_16 a0_0)))) = true := by simpa using c53))
              (try (have c53b2 : ((wrap64 (x146000_3 + ((rd_T43 y147 x15_3).f0))) == (Int.tmod x7_16 a0_0) && ((wrap64 (x146001_3 + ((rd_T43 y147 x15_3).f1))) == (wrap64 (Int.tdiv x7_16 a0_0)))) = true := by simpa using c53))
              clear c53
              simp only [Option.some.injEq, Prod.mk.injEq] at H
              obtain ⟨rfl, rfl⟩ := H
              try go_wp2
              have n0_ := zA (zG HO_12.out)
              have n1_ := zA (zG HO_13.out)
              have n2_ := zA (zG HO_14.out)
              have n3_ := zA (zG HO_16.out)
              have n4_ := zA (zN BK141.out)
              have n5_ := zA (zN BK142.out)
              have n6_ := zA (zN BK145.out)
              have n7_ := zA (zN BK146.out)
              have n8_ := zA (zQ HB.out)
              clear HO_12
              clear HO_13
              clear HO_14
              clear HO_16
              clear BK141
              clear BK142
              clear BK145
              clear BK146
              clear HB
              have HO_12 := n0_
              have HO_13 := n1_
              have HO_14 := n2_
              have HO_16 := n3_
              have BK141 := n4_
              have BK142 := n5_
              have BK145 := n6_
              have BK146 := n7_
              have HB := n8_
              clear n0_ n1_ n2_ n3_ n4_ n5_ n6_ n7_ n8_
              obtain ⟨Ao55, co55, eo55⟩ := Kd.R_slice HO_12.out
              (first | subst eo55 | (injection eo55 with f1_ f2_ f3_; have f4_ := f1_.symm; have f5_ := f3_.symm; clear f1_ f2_ f3_; subst f4_; subst f5_))
              have p159 : 0 ≤ (x15_3 : Int) := of_decide_eq_true (by first | (with_reducible assumption) | assumption)
              have q159 : x15_3 < (y147.length : Int) := of_decide_eq_true (by first | (with_reducible assumption) | assumption)
              obtain ⟨ad159, e159, hx159_0, hx159_1⟩ := at_T43 (zK HO_12.out).2.2 x15_3 p159 q159
              cases e159
              have hv_ := HV12_.out
              injection hv_ with hva hvb hvc
              have hva := Option.some.inj hva
              have hvb : y147.length = 4 := hvb
              have hxa159_0 := hx159_0; rw [hva] at hxa159_0; simp only [arr_add] at hxa159_0
              have hxa159_1 := hx159_1; rw [hva] at hxa159_1; simp only [arr_add] at hxa159_1
              have q8159_ : (x15_3) < (4 : Int) := by have := of_eq_true (eq_true q159); omega
              replace q8159_ := eq_true q8159_
              have HVa159 := zA hva
              clear hva hvb hvc
              replace p159 := eq_true p159
              replace q159 := eq_true q159
              have p160 : 0 ≤ (x15_3 : Int) := of_decide_eq_true (by first | (with_reducible assumption) | assumption)
              have q160 : x15_3 < (y147.length : Int) := of_decide_eq_true (by first | (with_reducible assumption) | assumption)
              obtain ⟨ad160, e160, hx160_0, hx160_1⟩ := at_T43 (zK HO_12.out).2.2 x15_3 p160 q160
              obtain rfl : ad159 = ad160 := (by injection e160)
              have hv_ := HV12_.out
              injection hv_ with hva hvb hvc
              have hva := Option.some.inj hva
              have hvb : y147.length = 4 := hvb
              have hxa160_0 := hx160_0; rw [hva] at hxa160_0; simp only [arr_add] at hxa160_0
              have hxa160_1 := hx160_1; rw [hva] at hxa160_1; simp only [arr_add] at hxa160_1
              have q8160_ : (x15_3) < (4 : Int) := by have := of_eq_true (eq_true q160); omega
              replace q8160_ := eq_true q8160_
              have HVa160 := zA hva
              clear hva hvb hvc
              replace p160 := eq_true p160
              replace q160 := eq_true q160
              refine start_ (n := 16) (S := fun w' => w'.cell? ⟨gb145, 0, none⟩ = some (.int .i64 x146000_3) ∧ w'.cell? ⟨gb145, 1, none⟩ = some (.int .i64 x146001_3) ∧ w'.cell? ⟨gA12, ((x15_3).toNat * 2), none⟩ = some (.int .i64 ((rd_T43 y147 x15_3).f0)) ∧ w'.cell? ⟨gA12, ((x15_3).toNat * 2) + 1, none⟩ = some (.int .i64 ((rd_T43 y147 x15_3).f1)) ∧ w'.cell? ⟨gA12, ((x15_3).toNat * 2), none⟩ = some (.int .i64 ((rd_T43 y147 x15_3).f0)) ∧ w'.cell? ⟨gA12, ((x15_3).toNat * 2) + 1, none⟩ = some (.int .i64 ((rd_T43 y147 x15_3).f1))) (ds := [15]) #[false, false, false, false, false, false, false, false, false, false, false, false, false, false, false, false] (by kernel_rfl) rfl rfl ⟨(blk_cell BK145.out 0).trans rfl, (blk_cell BK145.out 1).trans rfl, hxa159_0, hxa159_1, hxa160_0, hxa160_1⟩ (fun hHeld => ?_); refine with_tabW impl_Contour.tab22 impl_Contour.bits22 (fun HT_ HW_ => ?_)
              generalize wr.drew = w54 at HO_12 HO_13 HO_14 HO_16 BK141 BK142 BK145 BK146 HB hx159_0 hxa159_0 hx159_1 hxa159_1 hx160_0 hxa160_0 hx160_1 hxa160_1 hHeld ⊢
              refine pure_ (i := 0) (N := some 71) (v := ?_) (a' := ?_) #[true, false, false, false, false, false, false, false, false, false, false, false, false, false, false, false] rfl rfl (any_of HT_.out (by kernel_rfl)) (fun _ _ _ h => h) (Or.inl ⟨by rfl, ?_⟩) ?_ ?_
              rotate_left
              ·intro w'
               go_simp
               with_reducible rfl
              rotate_left
              ·simp only [Act.put, zB, zC, zD, i64_w, i32_w]
               rfl
              refine pure_ (i := 2) (N := some 73) (v := ?_) (a' := ?_) #[true, false, true, false, false, false, false, false, false, false, false, false, false, false, false, false] rfl rfl (any_of HT_.out (by kernel_rfl)) (fun _ _ _ h => h) (Or.inl ⟨by rfl, ?_⟩) ?_ ?_
              rotate_left
              ·intro w'
               go_simp
               with_reducible rfl
              rotate_left
              ·simp only [Act.put, zB, zC, zD, i64_w, i32_w]
               rfl
              refine pure_ (i := 3) (N := some 74) (v := ?_) (a' := ?_) #[true, false, true, true, false, false, false, false, false, false, false, false, false, false, false, false] rfl rfl (any_of HT_.out (by kernel_rfl)) (fun _ _ _ h => h) (Or.inl ⟨by rfl, ?_⟩) ?_ ?_
              rotate_left
              ·intro w'
               go_simp
               with_reducible rfl
              rotate_left
              ·simp only [Act.put, zB, zC, zD, i64_w, i32_w]
               rfl
              refine pure_ (i := 4) (N := some 75) (v := ?_) (a' := ?_) #[true, false, true, true, true, false, false, false, false, false, false, false, false, false, false, false] rfl rfl (any_of HT_.out (by kernel_rfl)) (fun _ _ _ h => h) (Or.inl ⟨by rfl, ?_⟩) ?_ ?_
              rotate_left
              ·intro w'
               go_simp
               with_reducible rfl
              rotate_left
              ·simp only [Act.put, zB, zC, zD, i64_w, i32_w]
               rfl
              refine pure_ (i := 7) (N := some 78) (v := ?_) (a' := ?_) #[true, false, true, true, true, false, false, true, false, false, false, false, false, false, false, false] rfl rfl (any_of HT_.out (by kernel_rfl)) (fun _ _ _ h => h) (Or.inl ⟨by rfl, ?_⟩) ?_ ?_
              rotate_left
              ·intro w'
               go_simp
               with_reducible rfl
              rotate_left
              ·simp only [Act.put, zB, zC, zD, i64_w, i32_w]
               rfl
              refine pure_ (i := 9) (N := some 80) (v := ?_) (a' := ?_) #[true, false, true, true, true, false, false, true, false, true, false, false, false, false, false, false] rfl rfl (any_of HT_.out (by kernel_rfl)) (fun _ _ _ h => h) (Or.inl ⟨by rfl, ?_⟩) ?_ ?_
              rotate_left
              ·intro w'
               go_simp
               with_reducible rfl
              rotate_left
              ·simp only [Act.put, zB, zC, zD, i64_w, i32_w]
               rfl
              refine pure_ (i := 10) (N := some 81) (v := ?_) (a' := ?_) #[true, false, true, true, true, false, false, true, false, true, true, false, false, false, false, false] rfl rfl (any_of HT_.out (by kernel_rfl)) (fun _ _ _ h => h) (Or.inl ⟨by rfl, ?_⟩) ?_ ?_
              rotate_left
              ·intro w'
               go_simp
               with_reducible rfl
              rotate_left
              ·simp only [Act.put, zB, zC, zD, i64_w, i32_w]
               rfl
              refine pure_ (i := 11) (N := some 82) (v := ?_) (a' := ?_) #[true, false, true, true, true, false, false, true, false, true, true, true, false, false, false, false] rfl rfl (any_of HT_.out (by kernel_rfl)) (fun _ _ _ h => h) (Or.inl ⟨by rfl, ?_⟩) ?_ ?_
              rotate_left
              ·intro w'
               go_simp
               with_reducible rfl
              rotate_left
              ·simp only [Act.put, zB, zC, zD, i64_w, i32_w]
               rfl
              refine take_ (i := 1) (N := some 72) (v := ?_) (a' := ?_) #[true, true, true, true, true, false, false, true, false, true, true, true, false, false, false, false] rfl rfl (take_ofW HT_.out HW_.out (by kernel_rfl)) (fun _ _ _ h => h) (Or.inl ⟨by rfl, ?_⟩) hHeld ?_ ?_
              rotate_left
              ·rintro w' ⟨s0, s1, s2, s3, s4, s5⟩
               go_simp
               with_reducible rfl
              rotate_left
              ·simp only [Act.put, zB, zC, zD, i64_w, i32_w]
               rfl
              refine take_ (i := 5) (N := some 76) (v := ?_) (a' := ?_) #[true, true, true, true, true, true, false, true, false, true, true, true, false, false, false, false] rfl rfl (take_ofW HT_.out HW_.out (by kernel_rfl)) (fun _ _ _ h => h) (Or.inl ⟨by rfl, ?_⟩) hHeld ?_ ?_
              rotate_left
              ·rintro w' ⟨s0, s1, s2, s3, s4, s5⟩
               go_simp
               with_reducible rfl
              rotate_left
              ·simp only [Act.put, zB, zC, zD, i64_w, i32_w]
               rfl
              refine pure_ (i := 6) (N := some 77) (v := ?_) (a' := ?_) #[true, true, true, true, true, true, true, true, false, true, true, true, false, false, false, false] rfl rfl (any_of HT_.out (by kernel_rfl)) (fun _ _ _ h => h) (Or.inl ⟨by rfl, ?_⟩) ?_ ?_
              rotate_left
              ·intro w'
               go_simp
               with_reducible rfl
              rotate_left
              ·simp only [Act.put, zB, zC, zD, i64_w, i32_w]
               rfl
              refine take_ (i := 8) (N := some 79) (v := ?_) (a' := ?_) #[true, true, true, true, true, true, true, true, true, true, true, true, false, false, false, false] rfl rfl (take_ofW HT_.out HW_.out (by kernel_rfl)) (fun _ _ _ h => h) (Or.inl ⟨by rfl, ?_⟩) hHeld ?_ ?_
              rotate_left
              ·rintro w' ⟨s0, s1, s2, s3, s4, s5⟩
               go_simp
               with_reducible rfl
              rotate_left
              ·simp only [Act.put, zB, zC, zD, i64_w, i32_w]
               rfl
              refine take_ (i := 12) (N := some 83) (v := ?_) (a' := ?_) #[true, true, true, true, true, true, true, true, true, true, true, true, true, false, false, false] rfl rfl (take_ofW HT_.out HW_.out (by kernel_rfl)) (fun _ _ _ h => h) (Or.inl ⟨by rfl, ?_⟩) hHeld ?_ ?_
              rotate_left
              ·rintro w' ⟨s0, s1, s2, s3, s4, s5⟩
               go_simp
               with_reducible rfl
              rotate_left
              ·simp only [Act.put, zB, zC, zD, i64_w, i32_w]
               rfl
              refine pure_ (i := 13) (N := some 84) (v := ?_) (a' := ?_) #[true, true, true, true, true, true, true, true, true, true, true, true, true, true, false, false] rfl rfl (any_of HT_.out (by kernel_rfl)) (fun _ _ _ h => h) (Or.inl ⟨by rfl, ?_⟩) ?_ ?_
              rotate_left
              ·intro w'
               go_simp
               with_reducible rfl
              rotate_left
              ·simp only [Act.put, zB, zC, zD, i64_w, i32_w]
               rfl
              refine pure_ (i := 14) (N := some 85) (v := ?_) (a' := ?_) #[true, true, true, true, true, true, true, true, true, true, true, true, true, true, true, false] rfl rfl (any_of HT_.out (by kernel_rfl)) (fun _ _ _ h => h) (Or.inl ⟨by rfl, ?_⟩) ?_ ?_
              rotate_left
              ·intro w'
               go_simp
               with_reducible rfl
              rotate_left
              ·simp only [Act.put, zB, zC, zD, i64_w, i32_w]
               rfl
              refine last_ (i := 15) (N := none) #[true, true, true, true, true, true, true, true, true, true, true, true, true, true, true, true] rfl rfl (one_of HT_.out (by kernel_rfl)) (by decide) (fun K hK => ?_)
              have hs56 : w54.cell? ⟨gb145, 0, none⟩ = some (.int .i64 x146000_3) := (blk_cell BK145.out 0).trans rfl
              have hfs56 := blk_frozen BK145.out 0
              have hns56_0 := NB141_145.out
              have hns56_1 := NB142_145.out
              have hns56_3 := NB146_145.out
              have hms56_0 := NB145_141.out
              have hms56_1 := NB145_142.out
              have hms56_3 := NB145_146.out
              have hs57 : w54.cell? ⟨gb145, 1, none⟩ = some (.int .i64 x146001_3) := (blk_cell BK145.out 1).trans rfl
              have hfs57 := blk_frozen BK145.out 1
              have hns57_0 := NB141_145.out
              have hns57_1 := NB142_145.out
              have hns57_3 := NB146_145.out
              have hms57_0 := NB145_141.out
              have hms57_1 := NB145_142.out
              have hms57_3 := NB145_146.out
              refine skip_ (w1 := ?_) (by rfl) rfl ?_ ?_
              rotate_left
              ·go_simp
               rfl
              refine hK.out _ _ ?_
              clear hK K
              refine done_ (done_of HT_.out (by kernel_rfl)) ?_
              have hnb58 := NB145_141.out
              have hnc58 := NB141_145.out
              have hnb59 := NB145_142.out
              have hnc59 := NB142_145.out
              have hnb60 := NB145_146.out
              have hnc60 := NB146_145.out
              have hcz61_0 : w54.cell? ⟨gb145, 0, none⟩ = some (.int .i64 x146000_3) := (blk_cell BK145.out 0).trans rfl
              have hcz61_1 : w54.cell? ⟨gb145, 1, none⟩ = some (.int .i64 x146001_3) := (blk_cell BK145.out 1).trans rfl
              have hfz61_0 := blk_frozen BK145.out 0
              have hfz61_1 := blk_frozen BK145.out 1
              have hnb62 := NB146_141.out
              have hnc62 := NB141_146.out
              have hnb63 := NB146_142.out
              have hnc63 := NB142_146.out
              have hcz64_0 : w54.cell? ⟨gb146, 0, none⟩ = some (.int .i64 (Int.tmod x7_16 a0_0)) := (blk_cell BK146.out 0).trans rfl
              have hcz64_1 : w54.cell? ⟨gb146, 1, none⟩ = some (.int .i64 (wrap64 (Int.tdiv x7_16 a0_0))) := (blk_cell BK146.out 1).trans rfl
              have hfz64_0 := blk_frozen BK146.out 0
              have hfz64_1 := blk_frozen BK146.out 1
              have hnb65 := NB141_142.out
              have hnc65 := NB142_141.out
              have hcz66_0 : w54.cell? ⟨gb141, 0, none⟩ = some (.int .i64 a0_0) := (blk_cell BK141.out 0).trans rfl
              have hcz66_1 : w54.cell? ⟨gb141, 1, none⟩ = some (.int .i64 a0_1) := (blk_cell BK141.out 1).trans rfl
              have hcz66_2 : w54.cell? ⟨gb141, 2, none⟩ = some (.slice A0_2 l0_2.length c0_2) := (blk_cell BK141.out 2).trans rfl
              have hfz66_0 := blk_frozen BK141.out 0
              have hfz66_1 := blk_frozen BK141.out 1
              have hfz66_2 := blk_frozen BK141.out 2
              have hcz67_0 : w54.cell? ⟨gb142, 0, none⟩ = some (.int .i64 a1) := (blk_cell BK142.out 0).trans rfl
              
              have hfz67_0 := blk_frozen BK142.out 0
              
              try go_wp2
              go_ret2
              exact ⟨_, by first | rfl | (simp [errW_none, errW_some] <;> rfl) | (simp [*, errW_none, errW_some] <;> rfl), by (with_reducible repeat (first | apply zF | apply zE | apply zG)); exact Kd.R_mono (Kd.R_far (p := ⟨gb145, 1, none⟩) (Kd.R_far (p := ⟨gb145, 0, none⟩) (Kd.R_mono HO_16.out (fun k_ hk => (⟨hk, hk.2.2.2.2.1⟩ : _ ∧ k_ ≠ gb145))) (fun _ hk => hk.2) (.int .i64 (wrap64 (x146000_3 + ((rd_T43 y147 x15_3).f0))))) (fun _ hk => hk.2) (.int .i64 (wrap64 (x146001_3 + ((rd_T43 y147 x15_3).f1))))) (fun _ hk => trivial), bB_ HB⟩
             ·rw [if_neg c53] at H
              have c53b0 : ((wrap64 (x146000_3 + ((rd_T43 y147 x15_3).f0))) == (Int.tmod x7_16 a0_0) && ((wrap64 (x146001_3 + ((rd_T43 y147 x15_3).f1))) == (wrap64 (Int.tdiv x7_16 a0_0)))) = false := by simpa using c53
              (try (have c53b1 : decide ((wrap64 (x146000_3 + ((rd_T43 y147 x15_3).f0))) = (Int.tmod x7_16 a0_0) && ((wrap64 (x146001_3 + ((rd_T43 y147 x15_3).f1))) == (wrap64 (Int.tdiv x7_16 a0_0)))) = false := by simpa using c53))
              (try (have c53b2 : ((wrap64 (x146000_3 + ((rd_T43 y147 x15_3).f0))) == (Int.tmod x7_16 a0_0) && ((wrap64 (x146001_3 + ((rd_T43 y147 x15_3).f1))) == (wrap64 (Int.tdiv x7_16 a0_0)))) = false := by simpa using c53))
              (try (have c53b3 : ¬ ((wrap64 (x146000_3 + ((rd_T43 y147 x15_3).f0))) = (Int.tmod x7_16 a0_0) && ((wrap64 (x146001_3 + ((rd_T43 y147 x15_3).f1))) == (wrap64 (Int.tdiv x7_16 a0_0)))) := by simpa using c53))
              clear c53
              by_cases c68 : x15_3 < (y150.length : Int)
              ·rw [if_pos c68] at H
               have c68b0 : decide (x15_3 < (y150.length : Int)) = true := decide_eq_true c68
               clear c68
               replace H := Option.bind_eq_some_iff.mp H
               obtain ⟨t163, A690, H⟩ := H
               replace H : (if x15_3 < (y153.length : Int) then ((impl_Contour_1.f (wrap64 ((wrap64 (x146000_3 + ((rd_T43 y147 x15_3).f0))) + ((rd_T43 y153 x15_3).f0))) (wrap64 ((wrap64 (x146001_3 + ((rd_T43 y147 x15_3).f1))) + ((rd_T43 y153 x15_3).f1))) a0_0 a0_1 l0_2 a1).bind fun t166 => (if t163 = true then (if t166 = true then (if x16_3.length < 8796093022208 then (impl_Contour.j4 k3 y147 y150 y153 (Int.tmod (wrap64 (x15_3 + 3)) 4) (x16_3 ++ [(⟨wrap64 (x146000_3 + ((rd_T43 y147 x15_3).f0)), wrap64 (x146001_3 + ((rd_T43 y147 x15_3).f1))⟩ : S43)]) a0_0 a0_1 l0_2 a1 0 (wrap64 (x146000_3 + ((rd_T43 y147 x15_3).f0))) (wrap64 (x146001_3 + ((rd_T43 y147 x15_3).f1))) (Int.tmod x7_16 a0_0) (wrap64 (Int.tdiv x7_16 a0_0))) else (none)) else (impl_Contour.j4 k3 y147 y150 y153 x15_3 x16_3 a0_0 a0_1 l0_2 a1 0 (wrap64 (x146000_3 + ((rd_T43 y147 x15_3).f0))) (wrap64 (x146001_3 + ((rd_T43 y147 x15_3).f1))) (Int.tmod x7_16 a0_0) (wrap64 (Int.tdiv x7_16 a0_0)))) else (if x16_3.length < 8796093022208 then (impl_Contour.j5 k3 y147 y150 y153 (Int.tmod (wrap64 (x15_3 + 1)) 4) (x16_3 ++ [(⟨wrap64 (x146000_3 + ((rd_T43 y147 x15_3).f0)), wrap64 (x146001_3 + ((rd_T43 y147 x15_3).f1))⟩ : S43)]) a0_0 a0_1 l0_2 a1 0 (wrap64 (x146000_3 + ((rd_T43 y147 x15_3).f0))) (wrap64 (x146001_3 + ((rd_T43 y147 x15_3).f1))) (Int.tmod x7_16 a0_0) (wrap64 (Int.tdiv x7_16 a0_0))) else (none)))) else (none)) = some (r1, r2) := H
               have A69 := zA A690
               clear A690
               by_cases c70 : x15_3 < (y153.length : Int)
               ·rw [if_pos c70] at H
                have c70b0 : decide (x15_3 < (y153.length : Int)) = true := decide_eq_true c70
                clear c70
                replace H := Option.bind_eq_some_iff.mp H
                obtain ⟨t166, A710, H⟩ := H
                replace H : (if t163 = true then (if t166 = true then (if x16_3.length < 8796093022208 then (impl_Contour.j4 k3 y147 y150 y153 (Int.tmod (wrap64 (x15_3 + 3)) 4) (x16_3 ++ [(⟨wrap64 (x146000_3 + ((rd_T43 y147 x15_3).f0)), wrap64 (x146001_3 + ((rd_T43 y147 x15_3).f1))⟩ : S43)]) a0_0 a0_1 l0_2 a1 0 (wrap64 (x146000_3 + ((rd_T43 y147 x15_3).f0))) (wrap64 (x146001_3 + ((rd_T43 y147 x15_3).f1))) (Int.tmod x7_16 a0_0) (wrap64 (Int.tdiv x7_16 a0_0))) else (none)) else (impl_Contour.j4 k3 y147 y150 y153 x15_3 x16_3 a0_0 a0_1 l0_2 a1 0 (wrap64 (x146000_3 + ((rd_T43 y147 x15_3).f0))) (wrap64 (x146001_3 + ((rd_T43 y147 x15_3).f1))) (Int.tmod x7_16 a0_0) (wrap64 (Int.tdiv x7_16 a0_0)))) else (if x16_3.length < 8796093022208 then (impl_Contour.j5 k3 y147 y150 y153 (Int.tmod (wrap64 (x15_3 + 1)) 4) (x16_3 ++ [(⟨wrap64 (x146000_3 + ((rd_T43 y147 x15_3).f0)), wrap64 (x146001_3 + ((rd_T43 y147 x15_3).f1))⟩ : S43)]) a0_0 a0_1 l0_2 a1 0 (wrap64 (x146000_3 + ((rd_T43 y147 x15_3).f0))) (wrap64 (x146001_3 + ((rd_T43 y147 x15_3).f1))) (Int.tmod x7_16 a0_0) (wrap64 (Int.tdiv x7_16 a0_0))) else (none))) = some (r1, r2) := H
                have A71 := zA A710
                clear A710
                have HC72 := zA H
                clear H
                try go_wp2
                have n0_ := zA (zG HO_12.out)
                have n1_ := zA (zG HO_13.out)
                have n2_ := zA (zG HO_14.out)
                have n3_ := zA (zG HO_16.out)
                have n4_ := zA (zN BK141.out)
                have n5_ := zA (zN BK142.out)
                have n6_ := zA (zN BK145.out)
                have n7_ := zA (zN BK146.out)
                have n8_ := zA (zQ HB.out)
                clear HO_12
                clear HO_13
                clear HO_14
                clear HO_16
                clear BK141
                clear BK142
                clear BK145
                clear BK146
                clear HB
                have HO_12 := n0_
                have HO_13 := n1_
                have HO_14 := n2_
                have HO_16 := n3_
                have BK141 := n4_
                have BK142 := n5_
                have BK145 := n6_
                have BK146 := n7_
                have HB := n8_
                clear n0_ n1_ n2_ n3_ n4_ n5_ n6_ n7_ n8_
                obtain ⟨Ao74, co74, eo74⟩ := Kd.R_slice HO_12.out
                (first | subst eo74 | (injection eo74 with f1_ f2_ f3_; have f4_ := f1_.symm; have f5_ := f3_.symm; clear f1_ f2_ f3_; subst f4_; subst f5_))
                have p159 : 0 ≤ (x15_3 : Int) := of_decide_eq_true (by first | (with_reducible assumption) | assumption)
                have q159 : x15_3 < (y147.length : Int) := of_decide_eq_true (by first | (with_reducible assumption) | assumption)
                obtain ⟨ad159, e159, hx159_0, hx159_1⟩ := at_T43 (zK HO_12.out).2.2 x15_3 p159 q159
                cases e159
                have hv_ := HV12_.out
                injection hv_ with hva hvb hvc
                have hva := Option.some.inj hva
                have hvb : y147.length = 4 := hvb
                have hxa159_0 := hx159_0; rw [hva] at hxa159_0; simp only [arr_add] at hxa159_0
                have hxa159_1 := hx159_1; rw [hva] at hxa159_1; simp only [arr_add] at hxa159_1
                have q8159_ : (x15_3) < (4 : Int) := by have := of_eq_true (eq_true q159); omega
                replace q8159_ := eq_true q8159_
                have HVa159 := zA hva
                clear hva hvb hvc
                replace p159 := eq_true p159
                replace q159 := eq_true q159
                have p160 : 0 ≤ (x15_3 : Int) := of_decide_eq_true (by first | (with_reducible assumption) | assumption)
                have q160 : x15_3 < (y147.length : Int) := of_decide_eq_true (by first | (with_reducible assumption) | assumption)
                obtain ⟨ad160, e160, hx160_0, hx160_1⟩ := at_T43 (zK HO_12.out).2.2 x15_3 p160 q160
                obtain rfl : ad159 = ad160 := (by injection e160)
                have hv_ := HV12_.out
                injection hv_ with hva hvb hvc
                have hva := Option.some.inj hva
                have hvb : y147.length = 4 := hvb
                have hxa160_0 := hx160_0; rw [hva] at hxa160_0; simp only [arr_add] at hxa160_0
                have hxa160_1 := hx160_1; rw [hva] at hxa160_1; simp only [arr_add] at hxa160_1
                have q8160_ : (x15_3) < (4 : Int) := by have := of_eq_true (eq_true q160); omega
                replace q8160_ := eq_true q8160_
                have HVa160 := zA hva
                clear hva hvb hvc
                replace p160 := eq_true p160
                replace q160 := eq_true q160
                refine start_ (n := 16) (S := fun w' => w'.cell? ⟨gb145, 0, none⟩ = some (.int .i64 x146000_3) ∧ w'.cell? ⟨gb145, 1, none⟩ = some (.int .i64 x146001_3) ∧ w'.cell? ⟨gA12, ((x15_3).toNat * 2), none⟩ = some (.int .i64 ((rd_T43 y147 x15_3).f0)) ∧ w'.cell? ⟨gA12, ((x15_3).toNat * 2) + 1, none⟩ = some (.int .i64 ((rd_T43 y147 x15_3).f1)) ∧ w'.cell? ⟨gA12, ((x15_3).toNat * 2), none⟩ = some (.int .i64 ((rd_T43 y147 x15_3).f0)) ∧ w'.cell? ⟨gA12, ((x15_3).toNat * 2) + 1, none⟩ = some (.int .i64 ((rd_T43 y147 x15_3).f1))) (ds := [15]) #[false, false, false, false, false, false, false, false, false, false, false, false, false, false, false, false] (by kernel_rfl) rfl rfl ⟨(blk_cell BK145.out 0).trans rfl, (blk_cell BK145.out 1).trans rfl, hxa159_0, hxa159_1, hxa160_0, hxa160_1⟩ (fun hHeld => ?_); refine with_tabW impl_Contour.tab22 impl_Contour.bits22 (fun HT_ HW_ => ?_)
                generalize wr.drew = w73 at HO_12 HO_13 HO_14 HO_16 BK141 BK142 BK145 BK146 HB hx159_0 hxa159_0 hx159_1 hxa159_1 hx160_0 hxa160_0 hx160_1 hxa160_1 hHeld ⊢
                refine pure_ (i := 0) (N := some 71) (v := ?_) (a' := ?_) #[true, false, false, false, false, false, false, false, false, false, false, false, false, false, false, false] rfl rfl (any_of HT_.out (by kernel_rfl)) (fun _ _ _ h => h) (Or.inl ⟨by rfl, ?_⟩) ?_ ?_
                rotate_left
                ·intro w'
                 go_simp
                 with_reducible rfl
                rotate_left
                ·simp only [Act.put, zB, zC, zD, i64_w, i32_w]
                 rfl
                refine pure_ (i := 2) (N := some 73) (v := ?_) (a' := ?_) #[true, false, true, false, false, false, false, false, false, false, false, false, false, false, false, false] rfl rfl (any_of HT_.out (by kernel_rfl)) (fun _ _ _ h => h) (Or.inl ⟨by rfl, ?_⟩) ?_ ?_
                rotate_left
                ·intro w'
                 go_simp
                 with_reducible rfl
                rotate_left
                ·simp only [Act.put, zB, zC, zD, i64_w, i32_w]
                 rfl
                refine pure_ (i := 3) (N := some 74) (v := ?_) (a' := ?_) #[true, false, true, true, false, false, false, false, false, false, false, false, false, false, false, false] rfl rfl (any_of HT_.out (by kernel_rfl)) (fun _ _ _ h => h) (Or.inl ⟨by rfl, ?_⟩) ?_ ?_
                rotate_left
                ·intro w'
                 go_simp
                 with_reducible rfl
                rotate_left
                ·simp only [Act.put, zB, zC, zD, i64_w, i32_w]
                 rfl
                refine pure_ (i := 4) (N := some 75) (v := ?_) (a' := ?_) #[true, false, true, true, true, false, false, false, false, false, false, false, false, false, false, false] rfl rfl (any_of HT_.out (by kernel_rfl)) (fun _ _ _ h => h) (Or.inl ⟨by rfl, ?_⟩) ?_ ?_
                rotate_left
                ·intro w'
                 go_simp
                 with_reducible rfl
                rotate_left
                ·simp only [Act.put, zB, zC, zD, i64_w, i32_w]
                 rfl
                refine pure_ (i := 7) (N := some 78) (v := ?_) (a' := ?_) #[true, false, true, true, true, false, false, true, false, false, false, false, false, false, false, false] rfl rfl (any_of HT_.out (by kernel_rfl)) (fun _ _ _ h => h) (Or.inl ⟨by rfl, ?_⟩) ?_ ?_
                rotate_left
                ·intro w'
                 go_simp
                 with_reducible rfl
                rotate_left
                ·simp only [Act.put, zB, zC, zD, i64_w, i32_w]
                 rfl
                refine pure_ (i := 9) (N := some 80) (v := ?_) (a' := ?_) #[true, false, true, true, true, false, false, true, false, true, false, false, false, false, false, false] rfl rfl (any_of HT_.out (by kernel_rfl)) (fun _ _ _ h => h) (Or.inl ⟨by rfl, ?_⟩) ?_ ?_
                rotate_left
                ·intro w'
                 go_simp
                 with_reducible rfl
                rotate_left
                ·simp only [Act.put, zB, zC, zD, i64_w, i32_w]
                 rfl
                refine pure_ (i := 10) (N := some 81) (v := ?_) (a' := ?_) #[true, false, true, true, true, false, false, true, false, true, true, false, false, false, false, false] rfl rfl (any_of HT_.out (by kernel_rfl)) (fun _ _ _ h => h) (Or.inl ⟨by rfl, ?_⟩) ?_ ?_
                rotate_left
                ·intro w'
                 go_simp
                 with_reducible rfl
                rotate_left
                ·simp only [Act.put, zB, zC, zD, i64_w, i32_w]
                 rfl
                refine pure_ (i := 11) (N := some 82) (v := ?_) (a' := ?_) #[true, false, true, true, true, false, false, true, false, true, true, true, false, false, false, false] rfl rfl (any_of HT_.out (by kernel_rfl)) (fun _ _ _ h => h) (Or.inl ⟨by rfl, ?_⟩) ?_ ?_
                rotate_left
                ·intro w'
                 go_simp
                 with_reducible rfl
                rotate_left
                ·simp only [Act.put, zB, zC, zD, i64_w, i32_w]
                 rfl
                refine take_ (i := 1) (N := some 72) (v := ?_) (a' := ?_) #[true, true, true, true, true, false, false, true, false, true, true, true, false, false, false, false] rfl rfl (take_ofW HT_.out HW_.out (by kernel_rfl)) (fun _ _ _ h => h) (Or.inl ⟨by rfl, ?_⟩) hHeld ?_ ?_
                rotate_left
                ·rintro w' ⟨s0, s1, s2, s3, s4, s5⟩
                 go_simp
                 with_reducible rfl
                rotate_left
                ·simp only [Act.put, zB, zC, zD, i64_w, i32_w]
                 rfl
                refine take_ (i := 5) (N := some 76) (v := ?_) (a' := ?_) #[true, true, true, true, true, true, false, true, false, true, true, true, false, false, false, false] rfl rfl (take_ofW HT_.out HW_.out (by kernel_rfl)) (fun _ _ _ h => h) (Or.inl ⟨by rfl, ?_⟩) hHeld ?_ ?_
                rotate_left
                ·rintro w' ⟨s0, s1, s2, s3, s4, s5⟩
                 go_simp
                 with_reducible rfl
                rotate_left
                ·simp only [Act.put, zB, zC, zD, i64_w, i32_w]
                 rfl
                refine pure_ (i := 6) (N := some 77) (v := ?_) (a' := ?_) #[true, true, true, true, true, true, true, true, false, true, true, true, false, false, false, false] rfl rfl (any_of HT_.out (by kernel_rfl)) (fun _ _ _ h => h) (Or.inl ⟨by rfl, ?_⟩) ?_ ?_
                rotate_left
                ·intro w'
                 go_simp
                 with_reducible rfl
                rotate_left
                ·simp only [Act.put, zB, zC, zD, i64_w, i32_w]
                 rfl
                refine take_ (i := 8) (N := some 79) (v := ?_) (a' := ?_) #[true, true, true, true, true, true, true, true, true, true, true, true, false, false, false, false] rfl rfl (take_ofW HT_.out HW_.out (by kernel_rfl)) (fun _ _ _ h => h) (Or.inl ⟨by rfl, ?_⟩) hHeld ?_ ?_
                rotate_left
                ·rintro w' ⟨s0, s1, s2, s3, s4, s5⟩
                 go_simp
                 with_reducible rfl
                rotate_left
                ·simp only [Act.put, zB, zC, zD, i64_w, i32_w]
                 rfl
                refine take_ (i := 12) (N := some 83) (v := ?_) (a' := ?_) #[true, true, true, true, true, true, true, true, true, true, true, true, true, false, false, false] rfl rfl (take_ofW HT_.out HW_.out (by kernel_rfl)) (fun _ _ _ h => h) (Or.inl ⟨by rfl, ?_⟩) hHeld ?_ ?_
                rotate_left
                ·rintro w' ⟨s0, s1, s2, s3, s4, s5⟩
                 go_simp
                 with_reducible rfl
                rotate_left
                ·simp only [Act.put, zB, zC, zD, i64_w, i32_w]
                 rfl
                refine pure_ (i := 13) (N := some 84) (v := ?_) (a' := ?_) #[true, true, true, true, true, true, true, true, true, true, true, true, true, true, false, false] rfl rfl (any_of HT_.out (by kernel_rfl)) (fun _ _ _ h => h) (Or.inl ⟨by rfl, ?_⟩) ?_ ?_
                rotate_left
                ·intro w'
                 go_simp
                 with_reducible rfl
                rotate_left
                ·simp only [Act.put, zB, zC, zD, i64_w, i32_w]
                 rfl
                refine pure_ (i := 14) (N := some 85) (v := ?_) (a' := ?_) #[true, true, true, true, true, true, true, true, true, true, true, true, true, true, true, false] rfl rfl (any_of HT_.out (by kernel_rfl)) (fun _ _ _ h => h) (Or.inl ⟨by rfl, ?_⟩) ?_ ?_
                rotate_left
                ·intro w'
                 go_simp
                 with_reducible rfl
                rotate_left
                ·simp only [Act.put, zB, zC, zD, i64_w, i32_w]
                 rfl
                refine last_ (i := 15) (N := none) #[true, true, true, true, true, true, true, true, true, true, true, true, true, true, true, true] rfl rfl (one_of HT_.out (by kernel_rfl)) (by decide) (fun K hK => ?_)
                have hs75 : w73.cell? ⟨gb145, 0, none⟩ = some (.int .i64 x146000_3) := (blk_cell BK145.out 0).trans rfl
                have hfs75 := blk_frozen BK145.out 0
                have hns75_0 := NB141_145.out
                have hns75_1 := NB142_145.out
                have hns75_3 := NB146_145.out
                have hms75_0 := NB145_141.out
                have hms75_1 := NB145_142.out
                have hms75_3 := NB145_146.out
                have hs76 : w73.cell? ⟨gb145, 1, none⟩ = some (.int .i64 x146001_3) := (blk_cell BK145.out 1).trans rfl
                have hfs76 := blk_frozen BK145.out 1
                have hns76_0 := NB141_145.out
                have hns76_1 := NB142_145.out
                have hns76_3 := NB146_145.out
                have hms76_0 := NB145_141.out
                have hms76_1 := NB145_142.out
                have hms76_3 := NB145_146.out
                refine skip_ (w1 := ?_) (by rfl) rfl ?_ ?_
                rotate_left
                ·go_simp
                 rfl
                refine hK.out _ _ ?_
                clear hK K
                refine done_ (done_of HT_.out (by kernel_rfl)) ?_
                have hnb77 := NB145_141.out
                have hnc77 := NB141_145.out
                have hnb78 := NB145_142.out
                have hnc78 := NB142_145.out
                have hnb79 := NB145_146.out
                have hnc79 := NB146_145.out
                have hcz80_0 : w73.cell? ⟨gb145, 0, none⟩ = some (.int .i64 x146000_3) := (blk_cell BK145.out 0).trans rfl
                have hcz80_1 : w73.cell? ⟨gb145, 1, none⟩ = some (.int .i64 x146001_3) := (blk_cell BK145.out 1).trans rfl
                have hfz80_0 := blk_frozen BK145.out 0
                have hfz80_1 := blk_frozen BK145.out 1
                have hnb81 := NB146_141.out
                have hnc81 := NB141_146.out
                have hnb82 := NB146_142.out
                have hnc82 := NB142_146.out
                have hcz83_0 : w73.cell? ⟨gb146, 0, none⟩ = some (.int .i64 (Int.tmod x7_16 a0_0)) := (blk_cell BK146.out 0).trans rfl
                have hcz83_1 : w73.cell? ⟨gb146, 1, none⟩ = some (.int .i64 (wrap64 (Int.tdiv x7_16 a0_0))) := (blk_cell BK146.out 1).trans rfl
                have hfz83_0 := blk_frozen BK146.out 0
                have hfz83_1 := blk_frozen BK146.out 1
                have hnb84 := NB141_142.out
                have hnc84 := NB142_141.out
                have hcz85_0 : w73.cell? ⟨gb141, 0, none⟩ = some (.int .i64 a0_0) := (blk_cell BK141.out 0).trans rfl
                have hcz85_1 : w73.cell? ⟨gb141, 1, none⟩ = some (.int .i64 a0_1) := (blk_cell BK141.out 1).trans rfl
                have hcz85_2 : w73.cell? ⟨gb141, 2, none⟩ = some (.slice A0_2 l0_2.length c0_2) := (blk_cell BK141.out 2).trans rfl
                have hfz85_0 := blk_frozen BK141.out 0
                have hfz85_1 := blk_frozen BK141.out 1
                have hfz85_2 := blk_frozen BK141.out 2
                have hcz86_0 : w73.cell? ⟨gb142, 0, none⟩ = some (.int .i64 a1) := (blk_cell BK142.out 0).trans rfl
                
                have hfz86_0 := blk_frozen BK142.out 0
                
                try go_wp2
                have n0_ : Aside0 (Kd.R k43 70 ((w73.setCell ⟨gb145, 0, none⟩ (.int .i64 (wrap64 (x146000_3 + ((rd_T43 y147 x15_3).f0))))).setCell ⟨gb145, 1, none⟩ (.int .i64 (wrap64 (x146001_3 + ((rd_T43 y147 x15_3).f1))))) w.heap.size (fun k_ => some k_ ≠ (v151 : Value).ownBlock ∧ some k_ ≠ (v154 : Value).ownBlock ∧ some k_ ≠ (u16 : Value).ownBlock ∧ k_ ≠ gb142 ∧ k_ ≠ gb145 ∧ k_ ≠ gb146) (.slice (some ad159) y147.length co74) y147) := ⟨by (with_reducible repeat (first | apply zF | apply zE | apply zG)); exact Kd.R_mono (Kd.R_far (p := ⟨gb145, 1, none⟩) (Kd.R_far (p := ⟨gb145, 0, none⟩) (Kd.R_mono HO_12.out (fun k_ hk => (⟨hk, hk.2.2.2.2.1⟩ : _ ∧ k_ ≠ gb145))) (fun _ hk => hk.2) (.int .i64 (wrap64 (x146000_3 + ((rd_T43 y147 x15_3).f0))))) (fun _ hk => hk.2) (.int .i64 (wrap64 (x146001_3 + ((rd_T43 y147 x15_3).f1))))) (fun _ hk => ⟨hk.1.1, ⟨hk.1.2.1, ⟨hk.1.2.2.1, ⟨hk.1.2.2.2.1, ⟨hk.1.2.2.2.2.1, hk.1.2.2.2.2.2⟩⟩⟩⟩⟩)⟩
                have n1_ : Aside0 (Kd.R k43 70 ((w73.setCell ⟨gb145, 0, none⟩ (.int .i64 (wrap64 (x146000_3 + ((rd_T43 y147 x15_3).f0))))).setCell ⟨gb145, 1, none⟩ (.int .i64 (wrap64 (x146001_3 + ((rd_T43 y147 x15_3).f1))))) w.heap.size (fun k_ => some k_ ≠ (.slice (some ad159) y147.length co74 : Value).ownBlock ∧ some k_ ≠ (v154 : Value).ownBlock ∧ some k_ ≠ (u16 : Value).ownBlock ∧ k_ ≠ gb142 ∧ k_ ≠ gb145 ∧ k_ ≠ gb146) v151 y150) := ⟨by (with_reducible repeat (first | apply zF | apply zE | apply zG)); exact Kd.R_mono (Kd.R_far (p := ⟨gb145, 1, none⟩) (Kd.R_far (p := ⟨gb145, 0, none⟩) (Kd.R_mono HO_13.out (fun k_ hk => (⟨hk, hk.2.2.2.2.1⟩ : _ ∧ k_ ≠ gb145))) (fun _ hk => hk.2) (.int .i64 (wrap64 (x146000_3 + ((rd_T43 y147 x15_3).f0))))) (fun _ hk => hk.2) (.int .i64 (wrap64 (x146001_3 + ((rd_T43 y147 x15_3).f1))))) (fun _ hk => ⟨hk.1.1, ⟨hk.1.2.1, ⟨hk.1.2.2.1, ⟨hk.1.2.2.2.1, ⟨hk.1.2.2.2.2.1, hk.1.2.2.2.2.2⟩⟩⟩⟩⟩)⟩
                have n2_ : Aside0 (Kd.R k43 70 ((w73.setCell ⟨gb145, 0, none⟩ (.int .i64 (wrap64 (x146000_3 + ((rd_T43 y147 x15_3).f0))))).setCell ⟨gb145, 1, none⟩ (.int .i64 (wrap64 (x146001_3 + ((rd_T43 y147 x15_3).f1))))) w.heap.size (fun k_ => some k_ ≠ (.slice (some ad159) y147.length co74 : Value).ownBlock ∧ some k_ ≠ (v151 : Value).ownBlock ∧ some k_ ≠ (u16 : Value).ownBlock ∧ k_ ≠ gb142 ∧ k_ ≠ gb145 ∧ k_ ≠ gb146) v154 y153) := ⟨by (with_reducible repeat (first | apply zF | apply zE | apply zG)); exact Kd.R_mono (Kd.R_far (p := ⟨gb145, 1, none⟩) (Kd.R_far (p := ⟨gb145, 0, none⟩) (Kd.R_mono HO_14.out (fun k_ hk => (⟨hk, hk.2.2.2.2.1⟩ : _ ∧ k_ ≠ gb145))) (fun _ hk => hk.2) (.int .i64 (wrap64 (x146000_3 + ((rd_T43 y147 x15_3).f0))))) (fun _ hk => hk.2) (.int .i64 (wrap64 (x146001_3 + ((rd_T43 y147 x15_3).f1))))) (fun _ hk => ⟨hk.1.1, ⟨hk.1.2.1, ⟨hk.1.2.2.1, ⟨hk.1.2.2.2.1, ⟨hk.1.2.2.2.2.1, hk.1.2.2.2.2.2⟩⟩⟩⟩⟩)⟩
                have n3_ : Aside0 (Kd.R k43 43 ((w73.setCell ⟨gb145, 0, none⟩ (.int .i64 (wrap64 (x146000_3 + ((rd_T43 y147 x15_3).f0))))).setCell ⟨gb145, 1, none⟩ (.int .i64 (wrap64 (x146001_3 + ((rd_T43 y147 x15_3).f1))))) w.heap.size (fun k_ => some k_ ≠ (.slice (some ad159) y147.length co74 : Value).ownBlock ∧ some k_ ≠ (v151 : Value).ownBlock ∧ some k_ ≠ (v154 : Value).ownBlock ∧ k_ ≠ gb142 ∧ k_ ≠ gb145 ∧ k_ ≠ gb146) u16 x16_3) := ⟨by (with_reducible repeat (first | apply zF | apply zE | apply zG)); exact Kd.R_mono (Kd.R_far (p := ⟨gb145, 1, none⟩) (Kd.R_far (p := ⟨gb145, 0, none⟩) (Kd.R_mono HO_16.out (fun k_ hk => (⟨hk, hk.2.2.2.2.1⟩ : _ ∧ k_ ≠ gb145))) (fun _ hk => hk.2) (.int .i64 (wrap64 (x146000_3 + ((rd_T43 y147 x15_3).f0))))) (fun _ hk => hk.2) (.int .i64 (wrap64 (x146001_3 + ((rd_T43 y147 x15_3).f1))))) (fun _ hk => ⟨hk.1.1, ⟨hk.1.2.1, ⟨hk.1.2.2.1, ⟨hk.1.2.2.2.1, ⟨hk.1.2.2.2.2.1, hk.1.2.2.2.2.2⟩⟩⟩⟩⟩)⟩
                have n4_ : Aside0 (((w73.setCell ⟨gb145, 0, none⟩ (.int .i64 (wrap64 (x146000_3 + ((rd_T43 y147 x15_3).f0))))).setCell ⟨gb145, 1, none⟩ (.int .i64 (wrap64 (x146001_3 + ((rd_T43 y147 x15_3).f1))))).heap[gb141]? = some (.cells #[.int .i64 a0_0, .int .i64 a0_1, .slice A0_2 l0_2.length c0_2] 26 (0, 0))) := ⟨bD_ BK141⟩
                have n5_ : Aside0 (((w73.setCell ⟨gb145, 0, none⟩ (.int .i64 (wrap64 (x146000_3 + ((rd_T43 y147 x15_3).f0))))).setCell ⟨gb145, 1, none⟩ (.int .i64 (wrap64 (x146001_3 + ((rd_T43 y147 x15_3).f1))))).heap[gb142]? = some (.cells #[.int .i64 a1] 3 (0, 0))) := ⟨bD_ BK142⟩
                have n6_ : Aside0 (((w73.setCell ⟨gb145, 0, none⟩ (.int .i64 (wrap64 (x146000_3 + ((rd_T43 y147 x15_3).f0))))).setCell ⟨gb145, 1, none⟩ (.int .i64 (wrap64 (x146001_3 + ((rd_T43 y147 x15_3).f1))))).heap[gb145]? = some (.cells #[.int .i64 (wrap64 (x146000_3 + ((rd_T43 y147 x15_3).f0))), .int .i64 (wrap64 (x146001_3 + ((rd_T43 y147 x15_3).f1)))] 43 (0, 0))) := ⟨by (with_reducible repeat (first | refine zM ?_ _ | refine zN ?_ | refine zO ?_ _)); refine blk_put (cs := #[.int .i64 (wrap64 (x146000_3 + ((rd_T43 y147 x15_3).f0))), .int .i64 x146001_3]) ?_ 1 _ rfl; (with_reducible repeat (first | refine zM ?_ _ | refine zN ?_ | refine zO ?_ _)); refine blk_put (cs := #[.int .i64 x146000_3, .int .i64 x146001_3]) ?_ 0 _ rfl; (with_reducible repeat (first | refine zM ?_ _ | refine zN ?_ | refine zO ?_ _)); exact BK145.out⟩
                have n7_ : Aside0 (((w73.setCell ⟨gb145, 0, none⟩ (.int .i64 (wrap64 (x146000_3 + ((rd_T43 y147 x15_3).f0))))).setCell ⟨gb145, 1, none⟩ (.int .i64 (wrap64 (x146001_3 + ((rd_T43 y147 x15_3).f1))))).heap[gb146]? = some (.cells #[.int .i64 (Int.tmod x7_16 a0_0), .int .i64 (wrap64 (Int.tdiv x7_16 a0_0))] 43 (0, 0))) := ⟨bD_ BK146⟩
                have n8_ : Aside0 (Below w.heap.size w ((w73.setCell ⟨gb145, 0, none⟩ (.int .i64 (wrap64 (x146000_3 + ((rd_T43 y147 x15_3).f0))))).setCell ⟨gb145, 1, none⟩ (.int .i64 (wrap64 (x146001_3 + ((rd_T43 y147 x15_3).f1)))))) := ⟨bB_ HB⟩
                (try clear HO_12)
                (try clear HO_13)
                (try clear HO_14)
                (try clear HO_16)
                (try clear BK141)
                (try clear BK142)
                (try clear BK145)
                (try clear BK146)
                (try clear HB)
                generalize ((w73.setCell ⟨gb145, 0, none⟩ (.int .i64 (wrap64 (x146000_3 + ((rd_T43 y147 x15_3).f0))))).setCell ⟨gb145, 1, none⟩ (.int .i64 (wrap64 (x146001_3 + ((rd_T43 y147 x15_3).f1))))) = w87 at n0_ n1_ n2_ n3_ n4_ n5_ n6_ n7_ n8_ ⊢
                have HO_12 := n0_
                have HO_13 := n1_
                have HO_14 := n2_
                have HO_16 := n3_
                have BK141 := n4_
                have BK142 := n5_
                have BK145 := n6_
                have BK146 := n7_
                have HB := n8_
                clear n0_ n1_ n2_ n3_ n4_ n5_ n6_ n7_ n8_
                have n0_ := zA (zG HO_12.out)
                have n1_ := zA (zG HO_13.out)
                have n2_ := zA (zG HO_14.out)
                have n3_ := zA (zG HO_16.out)
                have n4_ := zA (zN BK141.out)
                have n5_ := zA (zN BK142.out)
                have n6_ := zA (zN BK145.out)
                have n7_ := zA (zN BK146.out)
                have n8_ := zA (zQ HB.out)
                clear HO_12
                clear HO_13
                clear HO_14
                clear HO_16
                clear BK141
                clear BK142
                clear BK145
                clear BK146
                clear HB
                have HO_12 := n0_
                have HO_13 := n1_
                have HO_14 := n2_
                have HO_16 := n3_
                have BK141 := n4_
                have BK142 := n5_
                have BK145 := n6_
                have BK146 := n7_
                have HB := n8_
                clear n0_ n1_ n2_ n3_ n4_ n5_ n6_ n7_ n8_
                obtain ⟨Ao89, co89, eo89⟩ := Kd.R_slice HO_13.out
                (first | subst eo89 | (injection eo89 with f1_ f2_ f3_; have f4_ := f1_.symm; have f5_ := f3_.symm; clear f1_ f2_ f3_; subst f4_; subst f5_))
                have p161 : 0 ≤ (x15_3 : Int) := of_decide_eq_true (by first | (with_reducible assumption) | assumption)
                have q161 : x15_3 < (y150.length : Int) := of_decide_eq_true (by first | (with_reducible assumption) | assumption)
                obtain ⟨ad161, e161, hx161_0, hx161_1⟩ := at_T43 (zK HO_13.out).2.2 x15_3 p161 q161
                cases e161
                have hv_ := HV13_.out
                injection hv_ with hva hvb hvc
                have hva := Option.some.inj hva
                have hvb : y150.length = 4 := hvb
                have hxa161_0 := hx161_0; rw [hva] at hxa161_0; simp only [arr_add] at hxa161_0
                have hxa161_1 := hx161_1; rw [hva] at hxa161_1; simp only [arr_add] at hxa161_1
                have q8161_ : (x15_3) < (4 : Int) := by have := of_eq_true (eq_true q161); omega
                replace q8161_ := eq_true q8161_
                have HVa161 := zA hva
                clear hva hvb hvc
                replace p161 := eq_true p161
                replace q161 := eq_true q161
                have p162 : 0 ≤ (x15_3 : Int) := of_decide_eq_true (by first | (with_reducible assumption) | assumption)
                have q162 : x15_3 < (y150.length : Int) := of_decide_eq_true (by first | (with_reducible assumption) | assumption)
                obtain ⟨ad162, e162, hx162_0, hx162_1⟩ := at_T43 (zK HO_13.out).2.2 x15_3 p162 q162
                obtain rfl : ad161 = ad162 := (by injection e162)
                have hv_ := HV13_.out
                injection hv_ with hva hvb hvc
                have hva := Option.some.inj hva
                have hvb : y150.length = 4 := hvb
                have hxa162_0 := hx162_0; rw [hva] at hxa162_0; simp only [arr_add] at hxa162_0
                have hxa162_1 := hx162_1; rw [hva] at hxa162_1; simp only [arr_add] at hxa162_1
                have q8162_ : (x15_3) < (4 : Int) := by have := of_eq_true (eq_true q162); omega
                replace q8162_ := eq_true q8162_
                have HVa162 := zA hva
                clear hva hvb hvc
                replace p162 := eq_true p162
                replace q162 := eq_true q162
                refine start_ (n := 17) (S := fun w' => w'.cell? ⟨gb145, 0, none⟩ = some (.int .i64 (wrap64 (x146000_3 + ((rd_T43 y147 x15_3).f0)))) ∧ w'.cell? ⟨gb145, 1, none⟩ = some (.int .i64 (wrap64 (x146001_3 + ((rd_T43 y147 x15_3).f1)))) ∧ w'.cell? ⟨gA13, ((x15_3).toNat * 2), none⟩ = some (.int .i64 ((rd_T43 y150 x15_3).f0)) ∧ w'.cell? ⟨gA13, ((x15_3).toNat * 2) + 1, none⟩ = some (.int .i64 ((rd_T43 y150 x15_3).f1)) ∧ w'.cell? ⟨gA13, ((x15_3).toNat * 2), none⟩ = some (.int .i64 ((rd_T43 y150 x15_3).f0)) ∧ w'.cell? ⟨gA13, ((x15_3).toNat * 2) + 1, none⟩ = some (.int .i64 ((rd_T43 y150 x15_3).f1))) (ds := []) #[false, false, false, false, false, false, false, false, false, false, false, false, false, false, false, false, false] (by kernel_rfl) rfl rfl ⟨(blk_cell BK145.out 0).trans rfl, (blk_cell BK145.out 1).trans rfl, hxa161_0, hxa161_1, hxa162_0, hxa162_1⟩ (fun hHeld => ?_); refine with_tabW impl_Contour.tab25 impl_Contour.bits25 (fun HT_ HW_ => ?_)
                generalize w87.drew = w88 at HO_12 HO_13 HO_14 HO_16 BK141 BK142 BK145 BK146 HB hx161_0 hxa161_0 hx161_1 hxa161_1 hx162_0 hxa162_0 hx162_1 hxa162_1 hHeld ⊢
                refine pure_ (i := 0) (N := some 90) (v := ?_) (a' := ?_) #[true, false, false, false, false, false, false, false, false, false, false, false, false, false, false, false, false] rfl rfl (any_of HT_.out (by kernel_rfl)) (fun _ _ _ h => h) (Or.inl ⟨by rfl, ?_⟩) ?_ ?_
                rotate_left
                ·intro w'
                 go_simp
                 with_reducible rfl
                rotate_left
                ·simp only [Act.put, zB, zC, zD, i64_w, i32_w]
                 rfl
                refine pure_ (i := 1) (N := some 91) (v := ?_) (a' := ?_) #[true, true, false, false, false, false, false, false, false, false, false, false, false, false, false, false, false] rfl rfl (any_of HT_.out (by kernel_rfl)) (fun _ _ _ h => h) (Or.inl ⟨by rfl, ?_⟩) ?_ ?_
                rotate_left
                ·intro w'
                 go_simp
                 with_reducible rfl
                rotate_left
                ·simp only [Act.put, zB, zC, zD, i64_w, i32_w]
                 rfl
                refine pure_ (i := 3) (N := some 93) (v := ?_) (a' := ?_) #[true, true, false, true, false, false, false, false, false, false, false, false, false, false, false, false, false] rfl rfl (any_of HT_.out (by kernel_rfl)) (fun _ _ _ h => h) (Or.inl ⟨by rfl, ?_⟩) ?_ ?_
                rotate_left
                ·intro w'
                 go_simp
                 with_reducible rfl
                rotate_left
                ·simp only [Act.put, zB, zC, zD, i64_w, i32_w]
                 rfl
                refine pure_ (i := 4) (N := some 94) (v := ?_) (a' := ?_) #[true, true, false, true, true, false, false, false, false, false, false, false, false, false, false, false, false] rfl rfl (any_of HT_.out (by kernel_rfl)) (fun _ _ _ h => h) (Or.inl ⟨by rfl, ?_⟩) ?_ ?_
                rotate_left
                ·intro w'
                 go_simp
                 with_reducible rfl
                rotate_left
                ·simp only [Act.put, zB, zC, zD, i64_w, i32_w]
                 rfl
                refine pure_ (i := 5) (N := some 95) (v := ?_) (a' := ?_) #[true, true, false, true, true, true, false, false, false, false, false, false, false, false, false, false, false] rfl rfl (any_of HT_.out (by kernel_rfl)) (fun _ _ _ h => h) (Or.inl ⟨by rfl, ?_⟩) ?_ ?_
                rotate_left
                ·intro w'
                 go_simp
                 with_reducible rfl
                rotate_left
                ·simp only [Act.put, zB, zC, zD, i64_w, i32_w]
                 rfl
                refine pure_ (i := 8) (N := some 98) (v := ?_) (a' := ?_) #[true, true, false, true, true, true, false, false, true, false, false, false, false, false, false, false, false] rfl rfl (any_of HT_.out (by kernel_rfl)) (fun _ _ _ h => h) (Or.inl ⟨by rfl, ?_⟩) ?_ ?_
                rotate_left
                ·intro w'
                 go_simp
                 with_reducible rfl
                rotate_left
                ·simp only [Act.put, zB, zC, zD, i64_w, i32_w]
                 rfl
                refine pure_ (i := 10) (N := some 100) (v := ?_) (a' := ?_) #[true, true, false, true, true, true, false, false, true, false, true, false, false, false, false, false, false] rfl rfl (any_of HT_.out (by kernel_rfl)) (fun _ _ _ h => h) (Or.inl ⟨by rfl, ?_⟩) ?_ ?_
                rotate_left
                ·intro w'
                 go_simp
                 with_reducible rfl
                rotate_left
                ·simp only [Act.put, zB, zC, zD, i64_w, i32_w]
                 rfl
                refine pure_ (i := 11) (N := some 101) (v := ?_) (a' := ?_) #[true, true, false, true, true, true, false, false, true, false, true, true, false, false, false, false, false] rfl rfl (any_of HT_.out (by kernel_rfl)) (fun _ _ _ h => h) (Or.inl ⟨by rfl, ?_⟩) ?_ ?_
                rotate_left
                ·intro w'
                 go_simp
                 with_reducible rfl
                rotate_left
                ·simp only [Act.put, zB, zC, zD, i64_w, i32_w]
                 rfl
                refine pure_ (i := 12) (N := some 102) (v := ?_) (a' := ?_) #[true, true, false, true, true, true, false, false, true, false, true, true, true, false, false, false, false] rfl rfl (any_of HT_.out (by kernel_rfl)) (fun _ _ _ h => h) (Or.inl ⟨by rfl, ?_⟩) ?_ ?_
                rotate_left
                ·intro w'
                 go_simp
                 with_reducible rfl
                rotate_left
                ·simp only [Act.put, zB, zC, zD, i64_w, i32_w]
                 rfl
                refine take_ (i := 2) (N := some 92) (v := ?_) (a' := ?_) #[true, true, true, true, true, true, false, false, true, false, true, true, true, false, false, false, false] rfl rfl (take_ofW HT_.out HW_.out (by kernel_rfl)) (fun _ _ _ h => h) (Or.inl ⟨by rfl, ?_⟩) hHeld ?_ ?_
                rotate_left
                ·rintro w' ⟨s0, s1, s2, s3, s4, s5⟩
                 go_simp
                 with_reducible rfl
                rotate_left
                ·simp only [Act.put, zB, zC, zD, i64_w, i32_w]
                 rfl
                refine take_ (i := 6) (N := some 96) (v := ?_) (a' := ?_) #[true, true, true, true, true, true, true, false, true, false, true, true, true, false, false, false, false] rfl rfl (take_ofW HT_.out HW_.out (by kernel_rfl)) (fun _ _ _ h => h) (Or.inl ⟨by rfl, ?_⟩) hHeld ?_ ?_
                rotate_left
                ·rintro w' ⟨s0, s1, s2, s3, s4, s5⟩
                 go_simp
                 with_reducible rfl
                rotate_left
                ·simp only [Act.put, zB, zC, zD, i64_w, i32_w]
                 rfl
                refine pure_ (i := 7) (N := some 97) (v := ?_) (a' := ?_) #[true, true, true, true, true, true, true, true, true, false, true, true, true, false, false, false, false] rfl rfl (any_of HT_.out (by kernel_rfl)) (fun _ _ _ h => h) (Or.inl ⟨by rfl, ?_⟩) ?_ ?_
                rotate_left
                ·intro w'
                 go_simp
                 with_reducible rfl
                rotate_left
                ·simp only [Act.put, zB, zC, zD, i64_w, i32_w]
                 rfl
                refine take_ (i := 9) (N := some 99) (v := ?_) (a' := ?_) #[true, true, true, true, true, true, true, true, true, true, true, true, true, false, false, false, false] rfl rfl (take_ofW HT_.out HW_.out (by kernel_rfl)) (fun _ _ _ h => h) (Or.inl ⟨by rfl, ?_⟩) hHeld ?_ ?_
                rotate_left
                ·rintro w' ⟨s0, s1, s2, s3, s4, s5⟩
                 go_simp
                 with_reducible rfl
                rotate_left
                ·simp only [Act.put, zB, zC, zD, i64_w, i32_w]
                 rfl
                refine take_ (i := 13) (N := some 103) (v := ?_) (a' := ?_) #[true, true, true, true, true, true, true, true, true, true, true, true, true, true, false, false, false] rfl rfl (take_ofW HT_.out HW_.out (by kernel_rfl)) (fun _ _ _ h => h) (Or.inl ⟨by rfl, ?_⟩) hHeld ?_ ?_
                rotate_left
                ·rintro w' ⟨s0, s1, s2, s3, s4, s5⟩
                 go_simp
                 with_reducible rfl
                rotate_left
                ·simp only [Act.put, zB, zC, zD, i64_w, i32_w]
                 rfl
                refine pure_ (i := 14) (N := some 104) (v := ?_) (a' := ?_) #[true, true, true, true, true, true, true, true, true, true, true, true, true, true, true, false, false] rfl rfl (any_of HT_.out (by kernel_rfl)) (fun _ _ _ h => h) (Or.inl ⟨by rfl, ?_⟩) ?_ ?_
                rotate_left
                ·intro w'
                 go_simp
                 with_reducible rfl
                rotate_left
                ·simp only [Act.put, zB, zC, zD, i64_w, i32_w]
                 rfl
                refine one_ (i := 15) (N := some 105) #[true, true, true, true, true, true, true, true, true, true, true, true, true, true, true, true, false] rfl rfl (one_of HT_.out (by kernel_rfl)) (by decide) (fun K hK => ?_)
                refine goesD_ (cap := #[.pointer (some ⟨gb141, 0, none⟩), .pointer (some ⟨gb142, 0, none⟩)]) Try.func53 (by kernel_rfl) rfl #[.int .i64 (wrap64 ((wrap64 (x146000_3 + ((rd_T43 y147 x15_3).f0))) + ((rd_T43 y150 x15_3).f0))), .int .i64 (wrap64 ((wrap64 (x146001_3 + ((rd_T43 y147 x15_3).f1))) + ((rd_T43 y150 x15_3).f1))), .pointer (some ⟨gb141, 0, none⟩), .pointer (some ⟨gb142, 0, none⟩)] (by rfl) rfl rfl (by rfl) (by first | (go_simp; done) | rfl) ?_
                with_reducible refine (impl_Contour_1.calls (wrap64 ((wrap64 (x146000_3 + ((rd_T43 y147 x15_3).f0))) + ((rd_T43 y150 x15_3).f0))) (wrap64 ((wrap64 (x146001_3 + ((rd_T43 y147 x15_3).f1))) + ((rd_T43 y150 x15_3).f1))) a0_0 a0_1 A0_2 c0_2 l0_2 a1 t163 _ ?side1 ?side2 gb141 gb142 ?sideP ?sideZ A69.out).mono ?_
                (case sideP => (with_reducible repeat (first | refine zM ?_ _ | refine zN ?_ | refine zO ?_ _)); exact BK141.out)
                (case sideZ => (with_reducible repeat (first | refine zM ?_ _ | refine zN ?_ | refine zO ?_ _)); exact BK142.out)
                (case side1 => repeat (first | exact (Kd.C_below HR0_2.out HB.out) | (with_reducible refine zI ?_ _) | (with_reducible refine zH ?_ _) | (with_reducible refine zJ ?_)))
                (case side2 => exact HC0_2.out)
                rintro e w90 ⟨rfl, hb⟩
                have HS2_ := (hb.cell (World.block_lt_of_cell? _ _ (hHeld.2.2.1))).trans (hHeld.2.2.1)
                have HS3_ := (hb.cell (World.block_lt_of_cell? _ _ (hHeld.2.2.2.1))).trans (hHeld.2.2.2.1)
                have HS4_ := (hb.cell (World.block_lt_of_cell? _ _ (hHeld.2.2.2.2.1))).trans (hHeld.2.2.2.2.1)
                have HS5_ := (hb.cell (World.block_lt_of_cell? _ _ (hHeld.2.2.2.2.2))).trans (hHeld.2.2.2.2.2)
                refine ⟨_, rfl, ?_⟩
                have n0_ := zA (zL (bC_ HO_12) hb)
                have n1_ := zA (zL (bC_ HO_13) hb)
                have n2_ := zA (zL (bC_ HO_14) hb)
                have n3_ := zA (zL (bC_ HO_16) hb)
                have n4_ := zA (zU (g := gb141) (o := .cells #[.int .i64 a0_0, .int .i64 a0_1, .slice A0_2 l0_2.length c0_2] 26 (0, 0)) (bA_ BK141) hb)
                have n5_ := zA (zU (g := gb142) (o := .cells #[.int .i64 a1] 3 (0, 0)) (bA_ BK142) hb)
                have n6_ := zA (zU (g := gb145) (o := .cells #[.int .i64 (wrap64 (x146000_3 + ((rd_T43 y147 x15_3).f0))), .int .i64 (wrap64 (x146001_3 + ((rd_T43 y147 x15_3).f1)))] 43 (0, 0)) (bA_ BK145) hb)
                have n7_ := zA (zU (g := gb146) (o := .cells #[.int .i64 (Int.tmod x7_16 a0_0), .int .i64 (wrap64 (Int.tdiv x7_16 a0_0))] 43 (0, 0)) (bA_ BK146) hb)
                have n8_ := zA (below_step (bB_ HB) hb)
                clear HO_12
                clear HO_13
                clear HO_14
                clear HO_16
                clear BK141
                clear BK142
                clear BK145
                clear BK146
                clear HB
                have HO_12 := n0_
                have HO_13 := n1_
                have HO_14 := n2_
                have HO_16 := n3_
                have BK141 := n4_
                have BK142 := n5_
                have BK145 := n6_
                have BK146 := n7_
                have HB := n8_
                clear n0_ n1_ n2_ n3_ n4_ n5_ n6_ n7_ n8_
                (try clear hb)
                (try clear hb2)
                (try clear hk)
                (try clear hi)
                refine hK.out _ _ ⟨(blk_cell BK145.out 0).trans rfl, (blk_cell BK145.out 1).trans rfl, HS2_, HS3_, HS4_, HS5_⟩ (fun hHeld => ?_)
                clear hK K
                refine norm_ (a' := ?_) ?_ ?_
                rotate_left
                ·show Act.put _ (some 105) _ = _
                 simp only [Act.put, zB, zC, zD, i64_w, i32_w]
                 rfl
                refine pure_ (i := 16) (N := some 17) (v := ?_) (a' := ?_) #[true, true, true, true, true, true, true, true, true, true, true, true, true, true, true, true, true] rfl rfl (any_of HT_.out (by kernel_rfl)) (fun _ _ _ h => h) (Or.inl ⟨by rfl, ?_⟩) ?_ ?_
                rotate_left
                ·intro w'
                 go_simp
                 with_reducible rfl
                rotate_left
                ·simp only [Act.put, zB, zC, zD, i64_w, i32_w]
                 rfl
                refine done_ (done_of HT_.out (by kernel_rfl)) ?_
                try go_wp2
                have n0_ := zA (zG HO_12.out)
                have n1_ := zA (zG HO_13.out)
                have n2_ := zA (zG HO_14.out)
                have n3_ := zA (zG HO_16.out)
                have n4_ := zA (zN BK141.out)
                have n5_ := zA (zN BK142.out)
                have n6_ := zA (zN BK145.out)
                have n7_ := zA (zN BK146.out)
                have n8_ := zA (zQ HB.out)
                clear HO_12
                clear HO_13
                clear HO_14
                clear HO_16
                clear BK141
                clear BK142
                clear BK145
                clear BK146
                clear HB
                have HO_12 := n0_
                have HO_13 := n1_
                have HO_14 := n2_
                have HO_16 := n3_
                have BK141 := n4_
                have BK142 := n5_
                have BK145 := n6_
                have BK146 := n7_
                have HB := n8_
                clear n0_ n1_ n2_ n3_ n4_ n5_ n6_ n7_ n8_
                obtain ⟨Ao92, co92, eo92⟩ := Kd.R_slice HO_14.out
                (first | subst eo92 | (injection eo92 with f1_ f2_ f3_; have f4_ := f1_.symm; have f5_ := f3_.symm; clear f1_ f2_ f3_; subst f4_; subst f5_))
                have p164 : 0 ≤ (x15_3 : Int) := of_decide_eq_true (by first | (with_reducible assumption) | assumption)
                have q164 : x15_3 < (y153.length : Int) := of_decide_eq_true (by first | (with_reducible assumption) | assumption)
                obtain ⟨ad164, e164, hx164_0, hx164_1⟩ := at_T43 (zK HO_14.out).2.2 x15_3 p164 q164
                cases e164
                have hv_ := HV14_.out
                injection hv_ with hva hvb hvc
                have hva := Option.some.inj hva
                have hvb : y153.length = 4 := hvb
                have hxa164_0 := hx164_0; rw [hva] at hxa164_0; simp only [arr_add] at hxa164_0
                have hxa164_1 := hx164_1; rw [hva] at hxa164_1; simp only [arr_add] at hxa164_1
                have q8164_ : (x15_3) < (4 : Int) := by have := of_eq_true (eq_true q164); omega
                replace q8164_ := eq_true q8164_
                have HVa164 := zA hva
                clear hva hvb hvc
                replace p164 := eq_true p164
                replace q164 := eq_true q164
                have p165 : 0 ≤ (x15_3 : Int) := of_decide_eq_true (by first | (with_reducible assumption) | assumption)
                have q165 : x15_3 < (y153.length : Int) := of_decide_eq_true (by first | (with_reducible assumption) | assumption)
                obtain ⟨ad165, e165, hx165_0, hx165_1⟩ := at_T43 (zK HO_14.out).2.2 x15_3 p165 q165
                obtain rfl : ad164 = ad165 := (by injection e165)
                have hv_ := HV14_.out
                injection hv_ with hva hvb hvc
                have hva := Option.some.inj hva
                have hvb : y153.length = 4 := hvb
                have hxa165_0 := hx165_0; rw [hva] at hxa165_0; simp only [arr_add] at hxa165_0
                have hxa165_1 := hx165_1; rw [hva] at hxa165_1; simp only [arr_add] at hxa165_1
                have q8165_ : (x15_3) < (4 : Int) := by have := of_eq_true (eq_true q165); omega
                replace q8165_ := eq_true q8165_
                have HVa165 := zA hva
                clear hva hvb hvc
                replace p165 := eq_true p165
                replace q165 := eq_true q165
                refine start_ (n := 17) (S := fun w' => w'.cell? ⟨gb145, 0, none⟩ = some (.int .i64 (wrap64 (x146000_3 + ((rd_T43 y147 x15_3).f0)))) ∧ w'.cell? ⟨gb145, 1, none⟩ = some (.int .i64 (wrap64 (x146001_3 + ((rd_T43 y147 x15_3).f1)))) ∧ w'.cell? ⟨gA14, ((x15_3).toNat * 2), none⟩ = some (.int .i64 ((rd_T43 y153 x15_3).f0)) ∧ w'.cell? ⟨gA14, ((x15_3).toNat * 2) + 1, none⟩ = some (.int .i64 ((rd_T43 y153 x15_3).f1)) ∧ w'.cell? ⟨gA14, ((x15_3).toNat * 2), none⟩ = some (.int .i64 ((rd_T43 y153 x15_3).f0)) ∧ w'.cell? ⟨gA14, ((x15_3).toNat * 2) + 1, none⟩ = some (.int .i64 ((rd_T43 y153 x15_3).f1))) (ds := []) #[false, false, false, false, false, false, false, false, false, false, false, false, false, false, false, false, false] (by kernel_rfl) rfl rfl ⟨(blk_cell BK145.out 0).trans rfl, (blk_cell BK145.out 1).trans rfl, hxa164_0, hxa164_1, hxa165_0, hxa165_1⟩ (fun hHeld => ?_); refine with_tabW impl_Contour.tab26 impl_Contour.bits26 (fun HT_ HW_ => ?_)
                generalize w90.drew = w91 at HO_12 HO_13 HO_14 HO_16 BK141 BK142 BK145 BK146 HB hx164_0 hxa164_0 hx164_1 hxa164_1 hx165_0 hxa165_0 hx165_1 hxa165_1 hHeld ⊢
                refine pure_ (i := 0) (N := some 106) (v := ?_) (a' := ?_) #[true, false, false, false, false, false, false, false, false, false, false, false, false, false, false, false, false] rfl rfl (any_of HT_.out (by kernel_rfl)) (fun _ _ _ h => h) (Or.inl ⟨by rfl, ?_⟩) ?_ ?_
                rotate_left
                ·intro w'
                 go_simp
                 with_reducible rfl
                rotate_left
                ·simp only [Act.put, zB, zC, zD, i64_w, i32_w]
                 rfl
                refine pure_ (i := 1) (N := some 107) (v := ?_) (a' := ?_) #[true, true, false, false, false, false, false, false, false, false, false, false, false, false, false, false, false] rfl rfl (any_of HT_.out (by kernel_rfl)) (fun _ _ _ h => h) (Or.inl ⟨by rfl, ?_⟩) ?_ ?_
                rotate_left
                ·intro w'
                 go_simp
                 with_reducible rfl
                rotate_left
                ·simp only [Act.put, zB, zC, zD, i64_w, i32_w]
                 rfl
                refine pure_ (i := 3) (N := some 109) (v := ?_) (a' := ?_) #[true, true, false, true, false, false, false, false, false, false, false, false, false, false, false, false, false] rfl rfl (any_of HT_.out (by kernel_rfl)) (fun _ _ _ h => h) (Or.inl ⟨by rfl, ?_⟩) ?_ ?_
                rotate_left
                ·intro w'
                 go_simp
                 with_reducible rfl
                rotate_left
                ·simp only [Act.put, zB, zC, zD, i64_w, i32_w]
                 rfl
                refine pure_ (i := 4) (N := some 110) (v := ?_) (a' := ?_) #[true, true, false, true, true, false, false, false, false, false, false, false, false, false, false, false, false] rfl rfl (any_of HT_.out (by kernel_rfl)) (fun _ _ _ h => h) (Or.inl ⟨by rfl, ?_⟩) ?_ ?_
                rotate_left
                ·intro w'
                 go_simp
                 with_reducible rfl
                rotate_left
                ·simp only [Act.put, zB, zC, zD, i64_w, i32_w]
                 rfl
                refine pure_ (i := 5) (N := some 111) (v := ?_) (a' := ?_) #[true, true, false, true, true, true, false, false, false, false, false, false, false, false, false, false, false] rfl rfl (any_of HT_.out (by kernel_rfl)) (fun _ _ _ h => h) (Or.inl ⟨by rfl, ?_⟩) ?_ ?_
                rotate_left
                ·intro w'
                 go_simp
                 with_reducible rfl
                rotate_left
                ·simp only [Act.put, zB, zC, zD, i64_w, i32_w]
                 rfl
                refine pure_ (i := 8) (N := some 114) (v := ?_) (a' := ?_) #[true, true, false, true, true, true, false, false, true, false, false, false, false, false, false, false, false] rfl rfl (any_of HT_.out (by kernel_rfl)) (fun _ _ _ h => h) (Or.inl ⟨by rfl, ?_⟩) ?_ ?_
                rotate_left
                ·intro w'
                 go_simp
                 with_reducible rfl
                rotate_left
                ·simp only [Act.put, zB, zC, zD, i64_w, i32_w]
                 rfl
                refine pure_ (i := 10) (N := some 116) (v := ?_) (a' := ?_) #[true, true, false, true, true, true, false, false, true, false, true, false, false, false, false, false, false] rfl rfl (any_of HT_.out (by kernel_rfl)) (fun _ _ _ h => h) (Or.inl ⟨by rfl, ?_⟩) ?_ ?_
                rotate_left
                ·intro w'
                 go_simp
                 with_reducible rfl
                rotate_left
                ·simp only [Act.put, zB, zC, zD, i64_w, i32_w]
                 rfl
                refine pure_ (i := 11) (N := some 117) (v := ?_) (a' := ?_) #[true, true, false, true, true, true, false, false, true, false, true, true, false, false, false, false, false] rfl rfl (any_of HT_.out (by kernel_rfl)) (fun _ _ _ h => h) (Or.inl ⟨by rfl, ?_⟩) ?_ ?_
                rotate_left
                ·intro w'
                 go_simp
                 with_reducible rfl
                rotate_left
                ·simp only [Act.put, zB, zC, zD, i64_w, i32_w]
                 rfl
                refine pure_ (i := 12) (N := some 118) (v := ?_) (a' := ?_) #[true, true, false, true, true, true, false, false, true, false, true, true, true, false, false, false, false] rfl rfl (any_of HT_.out (by kernel_rfl)) (fun _ _ _ h => h) (Or.inl ⟨by rfl, ?_⟩) ?_ ?_
                rotate_left
                ·intro w'
                 go_simp
                 with_reducible rfl
                rotate_left
                ·simp only [Act.put, zB, zC, zD, i64_w, i32_w]
                 rfl
                refine take_ (i := 2) (N := some 108) (v := ?_) (a' := ?_) #[true, true, true, true, true, true, false, false, true, false, true, true, true, false, false, false, false] rfl rfl (take_ofW HT_.out HW_.out (by kernel_rfl)) (fun _ _ _ h => h) (Or.inl ⟨by rfl, ?_⟩) hHeld ?_ ?_
                rotate_left
                ·rintro w' ⟨s0, s1, s2, s3, s4, s5⟩
                 go_simp
                 with_reducible rfl
                rotate_left
                ·simp only [Act.put, zB, zC, zD, i64_w, i32_w]
                 rfl
                refine take_ (i := 6) (N := some 112) (v := ?_) (a' := ?_) #[true, true, true, true, true, true, true, false, true, false, true, true, true, false, false, false, false] rfl rfl (take_ofW HT_.out HW_.out (by kernel_rfl)) (fun _ _ _ h => h) (Or.inl ⟨by rfl, ?_⟩) hHeld ?_ ?_
                rotate_left
                ·rintro w' ⟨s0, s1, s2, s3, s4, s5⟩
                 go_simp
                 with_reducible rfl
                rotate_left
                ·simp only [Act.put, zB, zC, zD, i64_w, i32_w]
                 rfl
                refine pure_ (i := 7) (N := some 113) (v := ?_) (a' := ?_) #[true, true, true, true, true, true, true, true, true, false, true, true, true, false, false, false, false] rfl rfl (any_of HT_.out (by kernel_rfl)) (fun _ _ _ h => h) (Or.inl ⟨by rfl, ?_⟩) ?_ ?_
                rotate_left
                ·intro w'
                 go_simp
                 with_reducible rfl
                rotate_left
                ·simp only [Act.put, zB, zC, zD, i64_w, i32_w]
                 rfl
                refine take_ (i := 9) (N := some 115) (v := ?_) (a' := ?_) #[true, true, true, true, true, true, true, true, true, true, true, true, true, false, false, false, false] rfl rfl (take_ofW HT_.out HW_.out (by kernel_rfl)) (fun _ _ _ h => h) (Or.inl ⟨by rfl, ?_⟩) hHeld ?_ ?_
                rotate_left
                ·rintro w' ⟨s0, s1, s2, s3, s4, s5⟩
                 go_simp
                 with_reducible rfl
                rotate_left
                ·simp only [Act.put, zB, zC, zD, i64_w, i32_w]
                 rfl
                refine take_ (i := 13) (N := some 119) (v := ?_) (a' := ?_) #[true, true, true, true, true, true, true, true, true, true, true, true, true, true, false, false, false] rfl rfl (take_ofW HT_.out HW_.out (by kernel_rfl)) (fun _ _ _ h => h) (Or.inl ⟨by rfl, ?_⟩) hHeld ?_ ?_
                rotate_left
                ·rintro w' ⟨s0, s1, s2, s3, s4, s5⟩
                 go_simp
                 with_reducible rfl
                rotate_left
                ·simp only [Act.put, zB, zC, zD, i64_w, i32_w]
                 rfl
                refine pure_ (i := 14) (N := some 120) (v := ?_) (a' := ?_) #[true, true, true, true, true, true, true, true, true, true, true, true, true, true, true, false, false] rfl rfl (any_of HT_.out (by kernel_rfl)) (fun _ _ _ h => h) (Or.inl ⟨by rfl, ?_⟩) ?_ ?_
                rotate_left
                ·intro w'
                 go_simp
                 with_reducible rfl
                rotate_left
                ·simp only [Act.put, zB, zC, zD, i64_w, i32_w]
                 rfl
                refine one_ (i := 15) (N := some 121) #[true, true, true, true, true, true, true, true, true, true, true, true, true, true, true, true, false] rfl rfl (one_of HT_.out (by kernel_rfl)) (by decide) (fun K hK => ?_)
                refine goesD_ (cap := #[.pointer (some ⟨gb141, 0, none⟩), .pointer (some ⟨gb142, 0, none⟩)]) Try.func53 (by kernel_rfl) rfl #[.int .i64 (wrap64 ((wrap64 (x146000_3 + ((rd_T43 y147 x15_3).f0))) + ((rd_T43 y153 x15_3).f0))), .int .i64 (wrap64 ((wrap64 (x146001_3 + ((rd_T43 y147 x15_3).f1))) + ((rd_T43 y153 x15_3).f1))), .pointer (some ⟨gb141, 0, none⟩), .pointer (some ⟨gb142, 0, none⟩)] (by rfl) rfl rfl (by rfl) (by first | (go_simp; done) | rfl) ?_
                with_reducible refine (impl_Contour_1.calls (wrap64 ((wrap64 (x146000_3 + ((rd_T43 y147 x15_3).f0))) + ((rd_T43 y153 x15_3).f0))) (wrap64 ((wrap64 (x146001_3 + ((rd_T43 y147 x15_3).f1))) + ((rd_T43 y153 x15_3).f1))) a0_0 a0_1 A0_2 c0_2 l0_2 a1 t166 _ ?side1 ?side2 gb141 gb142 ?sideP ?sideZ A71.out).mono ?_
                (case sideP => (with_reducible repeat (first | refine zM ?_ _ | refine zN ?_ | refine zO ?_ _)); exact BK141.out)
                (case sideZ => (with_reducible repeat (first | refine zM ?_ _ | refine zN ?_ | refine zO ?_ _)); exact BK142.out)
                (case side1 => repeat (first | exact (Kd.C_below HR0_2.out HB.out) | (with_reducible refine zI ?_ _) | (with_reducible refine zH ?_ _) | (with_reducible refine zJ ?_)))
                (case side2 => exact HC0_2.out)
                rintro e w93 ⟨rfl, hb⟩
                have HS2_ := (hb.cell (World.block_lt_of_cell? _ _ (hHeld.2.2.1))).trans (hHeld.2.2.1)
                have HS3_ := (hb.cell (World.block_lt_of_cell? _ _ (hHeld.2.2.2.1))).trans (hHeld.2.2.2.1)
                have HS4_ := (hb.cell (World.block_lt_of_cell? _ _ (hHeld.2.2.2.2.1))).trans (hHeld.2.2.2.2.1)
                have HS5_ := (hb.cell (World.block_lt_of_cell? _ _ (hHeld.2.2.2.2.2))).trans (hHeld.2.2.2.2.2)
                refine ⟨_, rfl, ?_⟩
                have n0_ := zA (zL (bC_ HO_12) hb)
                have n1_ := zA (zL (bC_ HO_13) hb)
                have n2_ := zA (zL (bC_ HO_14) hb)
                have n3_ := zA (zL (bC_ HO_16) hb)
                have n4_ := zA (zU (g := gb141) (o := .cells #[.int .i64 a0_0, .int .i64 a0_1, .slice A0_2 l0_2.length c0_2] 26 (0, 0)) (bA_ BK141) hb)
                have n5_ := zA (zU (g := gb142) (o := .cells #[.int .i64 a1] 3 (0, 0)) (bA_ BK142) hb)
                have n6_ := zA (zU (g := gb145) (o := .cells #[.int .i64 (wrap64 (x146000_3 + ((rd_T43 y147 x15_3).f0))), .int .i64 (wrap64 (x146001_3 + ((rd_T43 y147 x15_3).f1)))] 43 (0, 0)) (bA_ BK145) hb)
                have n7_ := zA (zU (g := gb146) (o := .cells #[.int .i64 (Int.tmod x7_16 a0_0), .int .i64 (wrap64 (Int.tdiv x7_16 a0_0))] 43 (0, 0)) (bA_ BK146) hb)
                have n8_ := zA (below_step (bB_ HB) hb)
                clear HO_12
                clear HO_13
                clear HO_14
                clear HO_16
                clear BK141
                clear BK142
                clear BK145
                clear BK146
                clear HB
                have HO_12 := n0_
                have HO_13 := n1_
                have HO_14 := n2_
                have HO_16 := n3_
                have BK141 := n4_
                have BK142 := n5_
                have BK145 := n6_
                have BK146 := n7_
                have HB := n8_
                clear n0_ n1_ n2_ n3_ n4_ n5_ n6_ n7_ n8_
                (try clear hb)
                (try clear hb2)
                (try clear hk)
                (try clear hi)
                refine hK.out _ _ ⟨(blk_cell BK145.out 0).trans rfl, (blk_cell BK145.out 1).trans rfl, HS2_, HS3_, HS4_, HS5_⟩ (fun hHeld => ?_)
                clear hK K
                refine norm_ (a' := ?_) ?_ ?_
                rotate_left
                ·show Act.put _ (some 121) _ = _
                 simp only [Act.put, zB, zC, zD, i64_w, i32_w]
                 rfl
                refine pure_ (i := 16) (N := some 18) (v := ?_) (a' := ?_) #[true, true, true, true, true, true, true, true, true, true, true, true, true, true, true, true, true] rfl rfl (any_of HT_.out (by kernel_rfl)) (fun _ _ _ h => h) (Or.inl ⟨by rfl, ?_⟩) ?_ ?_
                rotate_left
                ·intro w'
                 go_simp
                 with_reducible rfl
                rotate_left
                ·simp only [Act.put, zB, zC, zD, i64_w, i32_w]
                 rfl
                refine done_ (done_of HT_.out (by kernel_rfl)) ?_
                go_upto_if 122 with (fail)
                refine then_wrap (fun _ _ => ?_)
                go_cut [15, 16] (fun v15 v16 wc => ∃ (kq : Nat) (x15_71 : Int) (x16_71 : List (S43)), v15 = .int .i64 x15_71 ∧ Aside0 (impl_Contour.j5 kq y147 y150 y153 x15_71 x16_71 a0_0 a0_1 l0_2 a1 0 (wrap64 (x146000_3 + ((rd_T43 y147 x15_3).f0))) (wrap64 (x146001_3 + ((rd_T43 y147 x15_3).f1))) (Int.tmod x7_16 a0_0) (wrap64 (Int.tdiv x7_16 a0_0)) = some (r1, r2)) ∧ Aside0 (kq ≤ k3) ∧ Aside0 (Kd.R k43 70 wc w.heap.size (fun k_ => some k_ ≠ ((.slice (some ad161) y150.length co89) : Value).ownBlock ∧ some k_ ≠ ((.slice (some ad164) y153.length co92) : Value).ownBlock ∧ some k_ ≠ (v16 : Value).ownBlock ∧ k_ ≠ gb142 ∧ k_ ≠ gb145 ∧ k_ ≠ gb146) (.slice (some ad159) y147.length co74) y147) ∧ Aside0 (Kd.R k43 70 wc w.heap.size (fun k_ => some k_ ≠ ((.slice (some ad159) y147.length co74) : Value).ownBlock ∧ some k_ ≠ ((.slice (some ad164) y153.length co92) : Value).ownBlock ∧ some k_ ≠ (v16 : Value).ownBlock ∧ k_ ≠ gb142 ∧ k_ ≠ gb145 ∧ k_ ≠ gb146) (.slice (some ad161) y150.length co89) y150) ∧ Aside0 (Kd.R k43 70 wc w.heap.size (fun k_ => some k_ ≠ ((.slice (some ad159) y147.length co74) : Value).ownBlock ∧ some k_ ≠ ((.slice (some ad161) y150.length co89) : Value).ownBlock ∧ some k_ ≠ (v16 : Value).ownBlock ∧ k_ ≠ gb142 ∧ k_ ≠ gb145 ∧ k_ ≠ gb146) (.slice (some ad164) y153.length co92) y153) ∧ Aside0 (Kd.R k43 43 wc w.heap.size (fun k_ => some k_ ≠ ((.slice (some ad159) y147.length co74) : Value).ownBlock ∧ some k_ ≠ ((.slice (some ad161) y150.length co89) : Value).ownBlock ∧ some k_ ≠ ((.slice (some ad164) y153.length co92) : Value).ownBlock ∧ k_ ≠ gb142 ∧ k_ ≠ gb145 ∧ k_ ≠ gb146) v16 x16_71) ∧ Aside0 (wc.heap[gb141]? = some (.cells #[.int .i64 a0_0, .int .i64 a0_1, (.slice A0_2 l0_2.length c0_2)] 26 (0, 0))) ∧ Aside0 (wc.heap[gb142]? = some (.cells #[.int .i64 a1] 3 (0, 0))) ∧ Aside0 (wc.heap[gb145]? = some (.cells #[.int .i64 (wrap64 (x146000_3 + ((rd_T43 y147 x15_3).f0))), .int .i64 (wrap64 (x146001_3 + ((rd_T43 y147 x15_3).f1)))] 43 (0, 0))) ∧ Aside0 (wc.heap[gb146]? = some (.cells #[.int .i64 (Int.tmod x7_16 a0_0), .int .i64 (wrap64 (Int.tdiv x7_16 a0_0))] 43 (0, 0))) ∧ Aside0 (Below w.heap.size w wc))
                case first =>
                 have H := HC72.out
                 clear HC72
                 by_cases c94 : t163 = true
                 ·subst c94
                  have H1 : (if t166 = true then (if x16_3.length < 8796093022208 then (impl_Contour.j4 k3 y147 y150 y153 (Int.tmod (wrap64 (x15_3 + 3)) 4) (x16_3 ++ [(⟨wrap64 (x146000_3 + ((rd_T43 y147 x15_3).f0)), wrap64 (x146001_3 + ((rd_T43 y147 x15_3).f1))⟩ : S43)]) a0_0 a0_1 l0_2 a1 0 (wrap64 (x146000_3 + ((rd_T43 y147 x15_3).f0))) (wrap64 (x146001_3 + ((rd_T43 y147 x15_3).f1))) (Int.tmod x7_16 a0_0) (wrap64 (Int.tdiv x7_16 a0_0))) else (none)) else (impl_Contour.j4 k3 y147 y150 y153 x15_3 x16_3 a0_0 a0_1 l0_2 a1 0 (wrap64 (x146000_3 + ((rd_T43 y147 x15_3).f0))) (wrap64 (x146001_3 + ((rd_T43 y147 x15_3).f1))) (Int.tmod x7_16 a0_0) (wrap64 (Int.tdiv x7_16 a0_0)))) = some (r1, r2) := by rw [if_pos rfl] at H; exact H
                  clear H
                  have H := H1
                  clear H1
                  have HC95 := zA H
                  clear H
                  go_upto_if 132 with (fail)
                  go_cut [15, 16] (fun v15 v16 wc => ∃ (kq : Nat) (x15_94 : Int) (x16_94 : List (S43)), v15 = .int .i64 x15_94 ∧ Aside0 (impl_Contour.j4 kq y147 y150 y153 x15_94 x16_94 a0_0 a0_1 l0_2 a1 0 (wrap64 (x146000_3 + ((rd_T43 y147 x15_3).f0))) (wrap64 (x146001_3 + ((rd_T43 y147 x15_3).f1))) (Int.tmod x7_16 a0_0) (wrap64 (Int.tdiv x7_16 a0_0)) = some (r1, r2)) ∧ Aside0 (kq ≤ k3) ∧ Aside0 (Kd.R k43 70 wc w.heap.size (fun k_ => some k_ ≠ ((.slice (some ad161) y150.length co89) : Value).ownBlock ∧ some k_ ≠ ((.slice (some ad164) y153.length co92) : Value).ownBlock ∧ some k_ ≠ (v16 : Value).ownBlock ∧ k_ ≠ gb142 ∧ k_ ≠ gb145 ∧ k_ ≠ gb146) (.slice (some ad159) y147.length co74) y147) ∧ Aside0 (Kd.R k43 70 wc w.heap.size (fun k_ => some k_ ≠ ((.slice (some ad159) y147.length co74) : Value).ownBlock ∧ some k_ ≠ ((.slice (some ad164) y153.length co92) : Value).ownBlock ∧ some k_ ≠ (v16 : Value).ownBlock ∧ k_ ≠ gb142 ∧ k_ ≠ gb145 ∧ k_ ≠ gb146) (.slice (some ad161) y150.length co89) y150) ∧ Aside0 (Kd.R k43 70 wc w.heap.size (fun k_ => some k_ ≠ ((.slice (some ad159) y147.length co74) : Value).ownBlock ∧ some k_ ≠ ((.slice (some ad161) y150.length co89) : Value).ownBlock ∧ some k_ ≠ (v16 : Value).ownBlock ∧ k_ ≠ gb142 ∧ k_ ≠ gb145 ∧ k_ ≠ gb146) (.slice (some ad164) y153.length co92) y153) ∧ Aside0 (Kd.R k43 43 wc w.heap.size (fun k_ => some k_ ≠ ((.slice (some ad159) y147.length co74) : Value).ownBlock ∧ some k_ ≠ ((.slice (some ad161) y150.length co89) : Value).ownBlock ∧ some k_ ≠ ((.slice (some ad164) y153.length co92) : Value).ownBlock ∧ k_ ≠ gb142 ∧ k_ ≠ gb145 ∧ k_ ≠ gb146) v16 x16_94) ∧ Aside0 (wc.heap[gb141]? = some (.cells #[.int .i64 a0_0, .int .i64 a0_1, (.slice A0_2 l0_2.length c0_2)] 26 (0, 0))) ∧ Aside0 (wc.heap[gb142]? = some (.cells #[.int .i64 a1] 3 (0, 0))) ∧ Aside0 (wc.heap[gb145]? = some (.cells #[.int .i64 (wrap64 (x146000_3 + ((rd_T43 y147 x15_3).f0))), .int .i64 (wrap64 (x146001_3 + ((rd_T43 y147 x15_3).f1)))] 43 (0, 0))) ∧ Aside0 (wc.heap[gb146]? = some (.cells #[.int .i64 (Int.tmod x7_16 a0_0), .int .i64 (wrap64 (Int.tdiv x7_16 a0_0))] 43 (0, 0))) ∧ Aside0 (Below w.heap.size w wc))
                  case first =>
                   have H := HC95.out
                   clear HC95
                   by_cases c96 : t166 = true
                   ·subst c96
                    have H1 : (if x16_3.length < 8796093022208 then (impl_Contour.j4 k3 y147 y150 y153 (Int.tmod (wrap64 (x15_3 + 3)) 4) (x16_3 ++ [(⟨wrap64 (x146000_3 + ((rd_T43 y147 x15_3).f0)), wrap64 (x146001_3 + ((rd_T43 y147 x15_3).f1))⟩ : S43)]) a0_0 a0_1 l0_2 a1 0 (wrap64 (x146000_3 + ((rd_T43 y147 x15_3).f0))) (wrap64 (x146001_3 + ((rd_T43 y147 x15_3).f1))) (Int.tmod x7_16 a0_0) (wrap64 (Int.tdiv x7_16 a0_0))) else (none)) = some (r1, r2) := by rw [if_pos rfl] at H; exact H
                    clear H
                    have H := H1
                    clear H1
                    by_cases c97 : x16_3.length < 8796093022208
                    ·rw [if_pos c97] at H
                     have LMc97 := zA c97
                     clear c97
                     obtain ⟨y167, hy167⟩ : ∃ y_ : List (S43), y_ = (x16_3 ++ [(⟨wrap64 (x146000_3 + ((rd_T43 y147 x15_3).f0)), wrap64 (x146001_3 + ((rd_T43 y147 x15_3).f1))⟩ : S43)]) := ⟨_, rfl⟩
                     replace H : (impl_Contour.j4 k3 y147 y150 y153 (Int.tmod (wrap64 (x15_3 + 3)) 4) y167 a0_0 a0_1 l0_2 a1 0 (wrap64 (x146000_3 + ((rd_T43 y147 x15_3).f0))) (wrap64 (x146001_3 + ((rd_T43 y147 x15_3).f1))) (Int.tmod x7_16 a0_0) (wrap64 (Int.tdiv x7_16 a0_0))) = some (r1, r2) := by first | (rw [hy167]; with_reducible exact H) | (have H2_ := (Option.bind_some _ _).symm.trans H; rw [hy167]; with_reducible exact H2_) | (have H2_ := (Option.bind_some _ _).symm.trans H; with_reducible exact H2_) | with_reducible exact H | (rw [hy167]; exact H) | exact H
                     have Ny167 := zA hy167
                     clear hy167
                     have H' := zA H
                     clear H
                     have hnb98 := NB145_141.out
                     have hnc98 := NB141_145.out
                     have hnb99 := NB145_142.out
                     have hnc99 := NB142_145.out
                     have hnb100 := NB145_146.out
                     have hnc100 := NB146_145.out
                     have hcz101_0 : w93.cell? ⟨gb145, 0, none⟩ = some (.int .i64 (wrap64 (x146000_3 + ((rd_T43 y147 x15_3).f0)))) := (blk_cell BK145.out 0).trans rfl
                     have hcz101_1 : w93.cell? ⟨gb145, 1, none⟩ = some (.int .i64 (wrap64 (x146001_3 + ((rd_T43 y147 x15_3).f1)))) := (blk_cell BK145.out 1).trans rfl
                     have hfz101_0 := blk_frozen BK145.out 0
                     have hfz101_1 := blk_frozen BK145.out 1
                     go_wp2_with (first | ((with_reducible refine gate_builtin (b := .append) (xs := #[.tmp 137, .tmp 139]) rfl ?_); at_builtin; refine Kd.R_append k43 (w0 := w) w.heap.size rfl (.tmp 137) (.tmp 139) 33 43 (.agg #[(.int .i64 0), (.int .i64 0)]) 16 rfl Try.underlying33 info43 rfl (by decide) (by omega) u16 x16_3 (⟨wrap64 (x146000_3 + ((rd_T43 y147 x15_3).f0)), wrap64 (x146001_3 + ((rd_T43 y147 x15_3).f1))⟩ : S43) [.int .i64 (wrap64 (x146000_3 + ((rd_T43 y147 x15_3).f0))), .int .i64 (wrap64 (x146001_3 + ((rd_T43 y147 x15_3).f1)))] (fun k_ => some k_ ≠ (.slice (some ad159) y147.length co74 : Value).ownBlock ∧ some k_ ≠ (.slice (some ad161) y150.length co89 : Value).ownBlock ∧ some k_ ≠ (.slice (some ad164) y153.length co92 : Value).ownBlock ∧ k_ ≠ gb142 ∧ k_ ≠ gb145 ∧ k_ ≠ gb146) (fun _ => False) rfl rfl ?aP (fun _ hk => hk.elim) ?aF ?aO ?aB ?aS ?aL ?_; (case aP => exact k43_mkM _ _ _ (⟨wrap64 (x146000_3 + ((rd_T43 y147 x15_3).f0)), wrap64 (x146001_3 + ((rd_T43 y147 x15_3).f1))⟩ : S43)); (case aB => exact (bB_ HB)); (case aF => exact (fun k_ hk => ⟨Kd.fresh' (Kd.R_lt (bC_ HO_12)) k_ hk, Kd.fresh' (Kd.R_lt (bC_ HO_13)) k_ hk, Kd.fresh' (Kd.R_lt (bC_ HO_14)) k_ hk, Kd.freshB (g := gb142) (o := .cells #[.int .i64 a1] 3 (0, 0)) (bA_ BK142) k_ hk, Kd.freshB (g := gb145) (o := .cells #[.int .i64 (wrap64 (x146000_3 + ((rd_T43 y147 x15_3).f0))), .int .i64 (wrap64 (x146001_3 + ((rd_T43 y147 x15_3).f1)))] 43 (0, 0)) (bA_ BK145) k_ hk, Kd.freshB (g := gb146) (o := .cells #[.int .i64 (Int.tmod x7_16 a0_0), .int .i64 (wrap64 (Int.tdiv x7_16 a0_0))] 43 (0, 0)) (bA_ BK146) k_ hk⟩)); (case aO => exact (bC_ HO_16)); (case aS => exact (zT (bB_ HB))); (case aL => have := LMc97.out; omega); intro v168 w102 ho hb hg hat; rw [← Ny167.out] at ho; have n0_ := zA (Kd.R_after (ok := (fun k_ => some k_ ≠ (.slice (some ad161) y150.length co89 : Value).ownBlock ∧ some k_ ≠ (.slice (some ad164) y153.length co92 : Value).ownBlock ∧ k_ ≠ gb142 ∧ k_ ≠ gb145 ∧ k_ ≠ gb146)) (by (with_reducible repeat (first | apply zF | apply zE | apply zG)); exact Kd.R_mono HO_12.out (fun _ hk => ⟨⟨hk.1, ⟨hk.2.1, ⟨hk.2.2.2.1, ⟨hk.2.2.2.2.1, hk.2.2.2.2.2⟩⟩⟩⟩, hk.2.2.1⟩)) hg hat); have n1_ := zA (Kd.R_after (ok := (fun k_ => some k_ ≠ (.slice (some ad159) y147.length co74 : Value).ownBlock ∧ some k_ ≠ (.slice (some ad164) y153.length co92 : Value).ownBlock ∧ k_ ≠ gb142 ∧ k_ ≠ gb145 ∧ k_ ≠ gb146)) (by (with_reducible repeat (first | apply zF | apply zE | apply zG)); exact Kd.R_mono HO_13.out (fun _ hk => ⟨⟨hk.1, ⟨hk.2.1, ⟨hk.2.2.2.1, ⟨hk.2.2.2.2.1, hk.2.2.2.2.2⟩⟩⟩⟩, hk.2.2.1⟩)) hg hat); have n2_ := zA (Kd.R_after (ok := (fun k_ => some k_ ≠ (.slice (some ad159) y147.length co74 : Value).ownBlock ∧ some k_ ≠ (.slice (some ad161) y150.length co89 : Value).ownBlock ∧ k_ ≠ gb142 ∧ k_ ≠ gb145 ∧ k_ ≠ gb146)) (by (with_reducible repeat (first | apply zF | apply zE | apply zG)); exact Kd.R_mono HO_14.out (fun _ hk => ⟨⟨hk.1, ⟨hk.2.1, ⟨hk.2.2.2.1, ⟨hk.2.2.2.2.1, hk.2.2.2.2.2⟩⟩⟩⟩, hk.2.2.1⟩)) hg hat); have n3_ := zA (blk_grown (g := gb141) (o := .cells #[.int .i64 a0_0, .int .i64 a0_1, .slice A0_2 l0_2.length c0_2] 26 (0, 0)) (bA_ BK141) hg (Kd.R_ne HO_16.out BK141.out (by decide))); have n4_ := zA (blk_grown (g := gb142) (o := .cells #[.int .i64 a1] 3 (0, 0)) (bA_ BK142) hg (Kd.R_away HO_16.out (fun _ hk => hk.2.2.2.1))); have n5_ := zA (blk_grown (g := gb145) (o := .cells #[.int .i64 (wrap64 (x146000_3 + ((rd_T43 y147 x15_3).f0))), .int .i64 (wrap64 (x146001_3 + ((rd_T43 y147 x15_3).f1)))] 43 (0, 0)) (bA_ BK145) hg (Kd.R_away HO_16.out (fun _ hk => hk.2.2.2.2.1))); have n6_ := zA (blk_grown (g := gb146) (o := .cells #[.int .i64 (Int.tmod x7_16 a0_0), .int .i64 (wrap64 (Int.tdiv x7_16 a0_0))] 43 (0, 0)) (bA_ BK146) hg (Kd.R_away HO_16.out (fun _ hk => hk.2.2.2.2.2))); have n7_ := zA (hb); have n8_ := zA (ho); clear HO_12; clear HO_13; clear HO_14; clear BK141; clear BK142; clear BK145; clear BK146; clear HB; clear HO_16; have HO_12 := n0_; have HO_13 := n1_; have HO_14 := n2_; have BK141 := n3_; have BK142 := n4_; have BK145 := n5_; have BK146 := n6_; have HB := n7_; have HO169 := n8_; clear n0_ n1_ n2_ n3_ n4_ n5_ n6_ n7_ n8_; clear ho hb hg hat))
                     go_meet
                     case rel => exact ⟨_, (Int.tmod (wrap64 (x15_3 + 3)) 4), (y167), (by first | rfl | (simp; done) | (simp [*]; done)), H', ⟨by have := HJ4.out; have := HJ16.out; have := HK3.out; first | omega | exact Nat.le_refl _⟩, ⟨by (with_reducible repeat (first | apply zF | apply zE | apply zG)); exact Kd.R_mono HO_12.out (fun _ hk => ⟨hk.1.1, ⟨hk.1.2.1, ⟨hk.2, ⟨hk.1.2.2.1, ⟨hk.1.2.2.2.1, hk.1.2.2.2.2⟩⟩⟩⟩⟩)⟩, ⟨by (with_reducible repeat (first | apply zF | apply zE | apply zG)); exact Kd.R_mono HO_13.out (fun _ hk => ⟨hk.1.1, ⟨hk.1.2.1, ⟨hk.2, ⟨hk.1.2.2.1, ⟨hk.1.2.2.2.1, hk.1.2.2.2.2⟩⟩⟩⟩⟩)⟩, ⟨by (with_reducible repeat (first | apply zF | apply zE | apply zG)); exact Kd.R_mono HO_14.out (fun _ hk => ⟨hk.1.1, ⟨hk.1.2.1, ⟨hk.2, ⟨hk.1.2.2.1, ⟨hk.1.2.2.2.1, hk.1.2.2.2.2⟩⟩⟩⟩⟩)⟩, ⟨bC_ HO169⟩, ⟨bA_ BK141⟩, ⟨bA_ BK142⟩, ⟨bA_ BK145⟩, ⟨bA_ BK146⟩, ⟨bB_ HB⟩⟩
                    ·rw [if_neg c97] at H
                     exact absurd H (by simp)
                   ·replace c96 := Bool.eq_false_iff.mpr c96
                    subst c96
                    have H1 : (impl_Contour.j4 k3 y147 y150 y153 x15_3 x16_3 a0_0 a0_1 l0_2 a1 0 (wrap64 (x146000_3 + ((rd_T43 y147 x15_3).f0))) (wrap64 (x146001_3 + ((rd_T43 y147 x15_3).f1))) (Int.tmod x7_16 a0_0) (wrap64 (Int.tdiv x7_16 a0_0))) = some (r1, r2) := by rw [if_neg (show ¬ (false = true) by decide)] at H; exact H
                    clear H
                    have H := H1
                    clear H1
                    have H' := zA H
                    clear H
                    go_wp2
                    go_meet
                    case rel => exact ⟨_, (x15_3), (x16_3), (by first | rfl | (simp; done) | (simp [*]; done)), H', ⟨by have := HJ4.out; have := HJ16.out; have := HK3.out; first | omega | exact Nat.le_refl _⟩, ⟨bC_ HO_12⟩, ⟨bC_ HO_13⟩, ⟨bC_ HO_14⟩, ⟨bC_ HO_16⟩, ⟨bA_ BK141⟩, ⟨bA_ BK142⟩, ⟨bA_ BK145⟩, ⟨bA_ BK146⟩, ⟨bB_ HB⟩⟩
                  case rest =>
                   clear HC95
                   try clear c1
                   try clear p1
                   try clear q1
                   try clear hx1
                   try clear p2
                   try clear c5
                   try clear p6
                   try clear c7
                   try clear c8
                   try clear c9
                   try clear c10
                   try clear p16
                   try clear q16
                   try clear hx16
                   try clear c53
                   try clear p64
                   try clear c77
                   try clear c78
                   try clear c79
                   try clear c81
                   try clear c82
                   try clear c84
                   try clear c94
                   try clear c96
                   try clear c97
                   try clear c98
                   try clear c99
                   try clear c100
                   try clear hcz101_0
                   try clear hcz101_1
                   try clear hcz80_0
                   try clear hcz80_1
                   try clear hcz83_0
                   try clear hcz83_1
                   try clear hcz85_0
                   try clear hcz85_1
                   try clear hcz85_2
                   try clear hcz86_0
                   try clear hcz86_1
                   try clear hfz101_0
                   try clear hfz101_1
                   try clear hfz80_0
                   try clear hfz80_1
                   try clear hfz83_0
                   try clear hfz83_1
                   try clear hfz85_0
                   try clear hfz85_1
                   try clear hfz85_2
                   try clear hfz86_0
                   try clear hfz86_1
                   try clear hx161_0
                   try clear hx161_1
                   try clear hx162_0
                   try clear hx162_1
                   try clear hx164_0
                   try clear hx164_1
                   try clear hx165_0
                   try clear hx165_1
                   try clear p161
                   try clear p162
                   try clear p164
                   try clear p165
                   try clear q161
                   try clear q162
                   try clear q164
                   try clear q165
                   obtain ⟨kq, x15_94, x16_94, rfl, HA, HJ94, HO_12, HO_13, HO_14, HO_16, BK141, BK142, BK145, BK146, HB⟩ := hcut
                   cases kq with
                   | zero => exact absurd HA.out (by simp [impl_Contour.j4])
                   | succ kj94 =>
                    have H := HA.out
                    clear HA
                    simp only [impl_Contour.j4] at H
                    have H' := zA H
                    clear H
                    go_wp2
                    go_meet
                    case rel => exact ⟨_, (x15_94), (x16_94), (by first | rfl | (simp; done) | (simp [*]; done)), H', ⟨by have := HJ4.out; have := HJ16.out; have := HK3.out; have := HJ94.out; first | omega | exact Nat.le_refl _⟩, ⟨bC_ HO_12⟩, ⟨bC_ HO_13⟩, ⟨bC_ HO_14⟩, ⟨bC_ HO_16⟩, ⟨bA_ BK141⟩, ⟨bA_ BK142⟩, ⟨bA_ BK145⟩, ⟨bA_ BK146⟩, ⟨bB_ HB⟩⟩
                 ·replace c94 := Bool.eq_false_iff.mpr c94
                  subst c94
                  have H1 : (if x16_3.length < 8796093022208 then (impl_Contour.j5 k3 y147 y150 y153 (Int.tmod (wrap64 (x15_3 + 1)) 4) (x16_3 ++ [(⟨wrap64 (x146000_3 + ((rd_T43 y147 x15_3).f0)), wrap64 (x146001_3 + ((rd_T43 y147 x15_3).f1))⟩ : S43)]) a0_0 a0_1 l0_2 a1 0 (wrap64 (x146000_3 + ((rd_T43 y147 x15_3).f0))) (wrap64 (x146001_3 + ((rd_T43 y147 x15_3).f1))) (Int.tmod x7_16 a0_0) (wrap64 (Int.tdiv x7_16 a0_0))) else (none)) = some (r1, r2) := by rw [if_neg (show ¬ (false = true) by decide)] at H; exact H
                  clear H
                  have H := H1
                  clear H1
                  by_cases c103 : x16_3.length < 8796093022208
                  ·rw [if_pos c103] at H
                   have LMc103 := zA c103
                   clear c103
                   obtain ⟨y170, hy170⟩ : ∃ y_ : List (S43), y_ = (x16_3 ++ [(⟨wrap64 (x146000_3 + ((rd_T43 y147 x15_3).f0)), wrap64 (x146001_3 + ((rd_T43 y147 x15_3).f1))⟩ : S43)]) := ⟨_, rfl⟩
                   replace H : (impl_Contour.j5 k3 y147 y150 y153 (Int.tmod (wrap64 (x15_3 + 1)) 4) y170 a0_0 a0_1 l0_2 a1 0 (wrap64 (x146000_3 + ((rd_T43 y147 x15_3).f0))) (wrap64 (x146001_3 + ((rd_T43 y147 x15_3).f1))) (Int.tmod x7_16 a0_0) (wrap64 (Int.tdiv x7_16 a0_0))) = some (r1, r2) := by first | (rw [hy170]; with_reducible exact H) | (have H2_ := (Option.bind_some _ _).symm.trans H; rw [hy170]; with_reducible exact H2_) | (have H2_ := (Option.bind_some _ _).symm.trans H; with_reducible exact H2_) | with_reducible exact H | (rw [hy170]; exact H) | exact H
                   have Ny170 := zA hy170
                   clear hy170
                   have H' := zA H
                   clear H
                   have hnb104 := NB145_141.out
                   have hnc104 := NB141_145.out
                   have hnb105 := NB145_142.out
                   have hnc105 := NB142_145.out
                   have hnb106 := NB145_146.out
                   have hnc106 := NB146_145.out
                   have hcz107_0 : w93.cell? ⟨gb145, 0, none⟩ = some (.int .i64 (wrap64 (x146000_3 + ((rd_T43 y147 x15_3).f0)))) := (blk_cell BK145.out 0).trans rfl
                   have hcz107_1 : w93.cell? ⟨gb145, 1, none⟩ = some (.int .i64 (wrap64 (x146001_3 + ((rd_T43 y147 x15_3).f1)))) := (blk_cell BK145.out 1).trans rfl
                   have hfz107_0 := blk_frozen BK145.out 0
                   have hfz107_1 := blk_frozen BK145.out 1
                   go_wp2_with (first | ((with_reducible refine gate_builtin (b := .append) (xs := #[.tmp 128, .tmp 130]) rfl ?_); at_builtin; refine Kd.R_append k43 (w0 := w) w.heap.size rfl (.tmp 128) (.tmp 130) 33 43 (.agg #[(.int .i64 0), (.int .i64 0)]) 16 rfl Try.underlying33 info43 rfl (by decide) (by omega) u16 x16_3 (⟨wrap64 (x146000_3 + ((rd_T43 y147 x15_3).f0)), wrap64 (x146001_3 + ((rd_T43 y147 x15_3).f1))⟩ : S43) [.int .i64 (wrap64 (x146000_3 + ((rd_T43 y147 x15_3).f0))), .int .i64 (wrap64 (x146001_3 + ((rd_T43 y147 x15_3).f1)))] (fun k_ => some k_ ≠ (.slice (some ad159) y147.length co74 : Value).ownBlock ∧ some k_ ≠ (.slice (some ad161) y150.length co89 : Value).ownBlock ∧ some k_ ≠ (.slice (some ad164) y153.length co92 : Value).ownBlock ∧ k_ ≠ gb142 ∧ k_ ≠ gb145 ∧ k_ ≠ gb146) (fun _ => False) rfl rfl ?aP (fun _ hk => hk.elim) ?aF ?aO ?aB ?aS ?aL ?_; (case aP => exact k43_mkM _ _ _ (⟨wrap64 (x146000_3 + ((rd_T43 y147 x15_3).f0)), wrap64 (x146001_3 + ((rd_T43 y147 x15_3).f1))⟩ : S43)); (case aB => exact (bB_ HB)); (case aF => exact (fun k_ hk => ⟨Kd.fresh' (Kd.R_lt (bC_ HO_12)) k_ hk, Kd.fresh' (Kd.R_lt (bC_ HO_13)) k_ hk, Kd.fresh' (Kd.R_lt (bC_ HO_14)) k_ hk, Kd.freshB (g := gb142) (o := .cells #[.int .i64 a1] 3 (0, 0)) (bA_ BK142) k_ hk, Kd.freshB (g := gb145) (o := .cells #[.int .i64 (wrap64 (x146000_3 + ((rd_T43 y147 x15_3).f0))), .int .i64 (wrap64 (x146001_3 + ((rd_T43 y147 x15_3).f1)))] 43 (0, 0)) (bA_ BK145) k_ hk, Kd.freshB (g := gb146) (o := .cells #[.int .i64 (Int.tmod x7_16 a0_0), .int .i64 (wrap64 (Int.tdiv x7_16 a0_0))] 43 (0, 0)) (bA_ BK146) k_ hk⟩)); (case aO => exact (bC_ HO_16)); (case aS => exact (zT (bB_ HB))); (case aL => have := LMc103.out; omega); intro v171 w108 ho hb hg hat; rw [← Ny170.out] at ho; have n0_ := zA (Kd.R_after (ok := (fun k_ => some k_ ≠ (.slice (some ad161) y150.length co89 : Value).ownBlock ∧ some k_ ≠ (.slice (some ad164) y153.length co92 : Value).ownBlock ∧ k_ ≠ gb142 ∧ k_ ≠ gb145 ∧ k_ ≠ gb146)) (by (with_reducible repeat (first | apply zF | apply zE | apply zG)); exact Kd.R_mono HO_12.out (fun _ hk => ⟨⟨hk.1, ⟨hk.2.1, ⟨hk.2.2.2.1, ⟨hk.2.2.2.2.1, hk.2.2.2.2.2⟩⟩⟩⟩, hk.2.2.1⟩)) hg hat); have n1_ := zA (Kd.R_after (ok := (fun k_ => some k_ ≠ (.slice (some ad159) y147.length co74 : Value).ownBlock ∧ some k_ ≠ (.slice (some ad164) y153.length co92 : Value).ownBlock ∧ k_ ≠ gb142 ∧ k_ ≠ gb145 ∧ k_ ≠ gb146)) (by (with_reducible repeat (first | apply zF | apply zE | apply zG)); exact Kd.R_mono HO_13.out (fun _ hk => ⟨⟨hk.1, ⟨hk.2.1, ⟨hk.2.2.2.1, ⟨hk.2.2.2.2.1, hk.2.2.2.2.2⟩⟩⟩⟩, hk.2.2.1⟩)) hg hat); have n2_ := zA (Kd.R_after (ok := (fun k_ => some k_ ≠ (.slice (some ad159) y147.length co74 : Value).ownBlock ∧ some k_ ≠ (.slice (some ad161) y150.length co89 : Value).ownBlock ∧ k_ ≠ gb142 ∧ k_ ≠ gb145 ∧ k_ ≠ gb146)) (by (with_reducible repeat (first | apply zF | apply zE | apply zG)); exact Kd.R_mono HO_14.out (fun _ hk => ⟨⟨hk.1, ⟨hk.2.1, ⟨hk.2.2.2.1, ⟨hk.2.2.2.2.1, hk.2.2.2.2.2⟩⟩⟩⟩, hk.2.2.1⟩)) hg hat); have n3_ := zA (blk_grown (g := gb141) (o := .cells #[.int .i64 a0_0, .int .i64 a0_1, .slice A0_2 l0_2.length c0_2] 26 (0, 0)) (bA_ BK141) hg (Kd.R_ne HO_16.out BK141.out (by decide))); have n4_ := zA (blk_grown (g := gb142) (o := .cells #[.int .i64 a1] 3 (0, 0)) (bA_ BK142) hg (Kd.R_away HO_16.out (fun _ hk => hk.2.2.2.1))); have n5_ := zA (blk_grown (g := gb145) (o := .cells #[.int .i64 (wrap64 (x146000_3 + ((rd_T43 y147 x15_3).f0))), .int .i64 (wrap64 (x146001_3 + ((rd_T43 y147 x15_3).f1)))] 43 (0, 0)) (bA_ BK145) hg (Kd.R_away HO_16.out (fun _ hk => hk.2.2.2.2.1))); have n6_ := zA (blk_grown (g := gb146) (o := .cells #[.int .i64 (Int.tmod x7_16 a0_0), .int .i64 (wrap64 (Int.tdiv x7_16 a0_0))] 43 (0, 0)) (bA_ BK146) hg (Kd.R_away HO_16.out (fun _ hk => hk.2.2.2.2.2))); have n7_ := zA (hb); have n8_ := zA (ho); clear HO_12; clear HO_13; clear HO_14; clear BK141; clear BK142; clear BK145; clear BK146; clear HB; clear HO_16; have HO_12 := n0_; have HO_13 := n1_; have HO_14 := n2_; have BK141 := n3_; have BK142 := n4_; have BK145 := n5_; have BK146 := n6_; have HB := n7_; have HO172 := n8_; clear n0_ n1_ n2_ n3_ n4_ n5_ n6_ n7_ n8_; clear ho hb hg hat))
                   go_meet
                   case rel => exact ⟨_, (Int.tmod (wrap64 (x15_3 + 1)) 4), (y170), (by first | rfl | (simp; done) | (simp [*]; done)), H', ⟨by have := HJ4.out; have := HJ16.out; have := HK3.out; first | omega | exact Nat.le_refl _⟩, ⟨by (with_reducible repeat (first | apply zF | apply zE | apply zG)); exact Kd.R_mono HO_12.out (fun _ hk => ⟨hk.1.1, ⟨hk.1.2.1, ⟨hk.2, ⟨hk.1.2.2.1, ⟨hk.1.2.2.2.1, hk.1.2.2.2.2⟩⟩⟩⟩⟩)⟩, ⟨by (with_reducible repeat (first | apply zF | apply zE | apply zG)); exact Kd.R_mono HO_13.out (fun _ hk => ⟨hk.1.1, ⟨hk.1.2.1, ⟨hk.2, ⟨hk.1.2.2.1, ⟨hk.1.2.2.2.1, hk.1.2.2.2.2⟩⟩⟩⟩⟩)⟩, ⟨by (with_reducible repeat (first | apply zF | apply zE | apply zG)); exact Kd.R_mono HO_14.out (fun _ hk => ⟨hk.1.1, ⟨hk.1.2.1, ⟨hk.2, ⟨hk.1.2.2.1, ⟨hk.1.2.2.2.1, hk.1.2.2.2.2⟩⟩⟩⟩⟩)⟩, ⟨bC_ HO172⟩, ⟨bA_ BK141⟩, ⟨bA_ BK142⟩, ⟨bA_ BK145⟩, ⟨bA_ BK146⟩, ⟨bB_ HB⟩⟩
                  ·rw [if_neg c103] at H
                   exact absurd H (by simp)
                case rest =>
                 clear HC72
                 try clear c1
                 try clear p1
                 try clear q1
                 try clear hx1
                 try clear p2
                 try clear c5
                 try clear p6
                 try clear c7
                 try clear c8
                 try clear c9
                 try clear c10
                 try clear p16
                 try clear q16
                 try clear hx16
                 try clear c53
                 try clear p64
                 try clear c77
                 try clear c78
                 try clear c79
                 try clear c81
                 try clear c82
                 try clear c84
                 try clear c94
                 try clear c96
                 try clear c97
                 try clear c98
                 try clear c99
                 try clear c100
                 try clear c103
                 try clear c104
                 try clear c105
                 try clear c106
                 try clear hcz101_0
                 try clear hcz101_1
                 try clear hcz107_0
                 try clear hcz107_1
                 try clear hcz80_0
                 try clear hcz80_1
                 try clear hcz83_0
                 try clear hcz83_1
                 try clear hcz85_0
                 try clear hcz85_1
                 try clear hcz85_2
                 try clear hcz86_0
                 try clear hcz86_1
                 try clear hfz101_0
                 try clear hfz101_1
                 try clear hfz107_0
                 try clear hfz107_1
                 try clear hfz80_0
                 try clear hfz80_1
                 try clear hfz83_0
                 try clear hfz83_1
                 try clear hfz85_0
                 try clear hfz85_1
                 try clear hfz85_2
                 try clear hfz86_0
                 try clear hfz86_1
                 try clear hx161_0
                 try clear hx161_1
                 try clear hx162_0
                 try clear hx162_1
                 try clear hx164_0
                 try clear hx164_1
                 try clear hx165_0
                 try clear hx165_1
                 try clear p1
                 try clear p16
                 try clear p161
                 try clear p162
                 try clear p164
                 try clear p165
                 try clear p2
                 try clear p6
                 try clear p64
                 try clear q1
                 try clear q16
                 try clear q161
                 try clear q162
                 try clear q164
                 try clear q165
                 obtain ⟨kq, x15_71, x16_71, rfl, HA, HJ71, HO_12, HO_13, HO_14, HO_16, BK141, BK142, BK145, BK146, HB⟩ := hcut
                 cases kq with
                 | zero => exact absurd HA.out (by simp [impl_Contour.j5])
                 | succ kj71 =>
                  have H := HA.out
                  clear HA
                  simp only [impl_Contour.j5] at H
                  have H' := zA H
                  clear H
                  go_wp2
                  go_roundg kj71
                  case measure => have := HJ4.out; have := HJ16.out; have := HK3.out; have := HJ71.out; omega
                  case rel => exact ⟨(x15_71), (x16_71), ((wrap64 (x146000_3 + ((rd_T43 y147 x15_3).f0)))), ((wrap64 (x146001_3 + ((rd_T43 y147 x15_3).f1)))), (by first | rfl | (simp; done) | (simp [*]; done)), H', ⟨by have := HJ4.out; have := HJ16.out; have := HK3.out; have := HJ71.out; omega⟩, ⟨bC_ HO_12⟩, ⟨bC_ HO_13⟩, ⟨bC_ HO_14⟩, ⟨bC_ HO_16⟩, ⟨bA_ BK141⟩, ⟨bA_ BK142⟩, ⟨bA_ BK145⟩, ⟨bA_ BK146⟩, ⟨bB_ HB⟩⟩
               ·rw [if_neg c70] at H
                exact absurd H (by simp)
              ·rw [if_neg c68] at H
               exact absurd H (by simp)
            ·rw [if_neg c52] at H
             exact absurd H (by simp)
           ·rw [if_neg c51] at H
            exact absurd H (by simp)
 ·replace c4 := Bool.eq_false_iff.mpr c4
  subst c4
  have H1 : (some (([] : List (S43)), 1)) = some (r1, r2) := by rw [if_neg (show ¬ (false = true) by decide)] at H; exact H
  clear H
  have H := H1
  clear H1
  simp only [Option.some.injEq, Prod.mk.injEq] at H
  obtain ⟨rfl, rfl⟩ := H
  go_enter Try.func17, Try.ntmps17
  go_wp2_with (first | ((with_reducible refine gate_dst (N := 2) rfl ?_); refine box_event ?hg (N := 2) ?hd (cs := #[.int .i64 a0_0, .int .i64 a0_1, .slice A0_2 l0_2.length c0_2]) (t := 26) ?hr ?_; (case hd => rfl); (case hg => rfl); (case hr => first | (go_simp; done) | (go_simp; rfl)); intro gb141 hg w109 hbox hb; have n0_ := zA (below_step (bB_ HB) hb); have n1_ := zA (hbox); have n2_ := zA ((by rw [hg]; exact (zT (bB_ HB)) : w.heap.size ≤ gb141)); have n3_ := zA ((by rw [hg]; exact (zT (bB_ HB)) : w.heap.size ≤ gb141)); clear HB; have HB := n0_; have BK141 := n1_; have GW141 := n2_; have GE141 := n3_; clear n0_ n1_ n2_ n3_; clear hb hbox hg) | ((with_reducible refine gate_dst (N := 3) rfl ?_); refine box_event ?hg (N := 3) ?hd (cs := #[.int .i64 a1]) (t := 3) ?hr ?_; (case hd => rfl); (case hg => rfl); (case hr => first | (go_simp; done) | (go_simp; rfl)); intro gb142 hg w110 hbox hb; have n0_ := zA (zU (g := gb141) (o := .cells #[.int .i64 a0_0, .int .i64 a0_1, .slice A0_2 l0_2.length c0_2] 26 (0, 0)) (bA_ BK141) hb); have n1_ := zA (below_step (bB_ HB) hb); have n2_ := zA (hbox); have n3_ := zA ((by rw [hg]; exact (zT (bB_ HB)) : w.heap.size ≤ gb142)); have n4_ := zA ((by rw [hg]; exact (zT (bB_ HB)) : w.heap.size ≤ gb142)); have n5_ := zA ((by rw [hg]; exact Nat.ne_of_lt (blk_lt (g := gb141) (o := .cells #[.int .i64 a0_0, .int .i64 a0_1, .slice A0_2 l0_2.length c0_2] 26 (0, 0)) (bA_ BK141)) : gb141 ≠ gb142)); have n6_ := zA ((by rw [hg]; exact Nat.ne_of_gt (blk_lt (g := gb141) (o := .cells #[.int .i64 a0_0, .int .i64 a0_1, .slice A0_2 l0_2.length c0_2] 26 (0, 0)) (bA_ BK141)) : gb142 ≠ gb141)); clear BK141; clear HB; have BK141 := n0_; have HB := n1_; have BK142 := n2_; have GW142 := n3_; have GE142 := n4_; have NB141_142 := n5_; have NB142_141 := n6_; clear n0_ n1_ n2_ n3_ n4_ n5_ n6_; clear hb hbox hg; have hnb111 := NB141_142.out; have hnc111 := NB142_141.out; have hcz112_0 : w110.cell? ⟨gb141, 0, none⟩ = some (.int .i64 a0_0) := (blk_cell BK141.out 0).trans rfl; have hcz112_1 : w110.cell? ⟨gb141, 1, none⟩ = some (.int .i64 a0_1) := (blk_cell BK141.out 1).trans rfl; have hcz112_2 : w110.cell? ⟨gb141, 2, none⟩ = some (.slice A0_2 l0_2.length c0_2) := (blk_cell BK141.out 2).trans rfl; have hfz112_0 := blk_frozen BK141.out 0; have hfz112_1 := blk_frozen BK141.out 1; have hfz112_2 := blk_frozen BK141.out 2) | ((with_reducible refine gate_callee (f := 44) rfl ?_); refine goesL_ (some 20) rfl rfl Try.func44 (by kernel_rfl) rfl #[.agg #[.int .i64 a0_0, .int .i64 a0_1, .slice A0_2 l0_2.length c0_2]] rfl (by (try simp only [List.map_toArray, List.map_cons, List.map_nil]); first | done | rfl | (simp only [List.length_drop, List.length_take]; rfl)) ?_; (with_reducible refine (impl_FieldOK.calls k a0_0 a0_1 _ _ l0_2 false _ ?side1 ?side2 A3.out).mono ?_); (case side1 => repeat (first | exact (Kd.C_below HR0_2.out HB.out) | (with_reducible refine zI ?_ _) | (with_reducible refine zH ?_ _) | (with_reducible refine zJ ?_))); (case side2 => exact HC0_2.out); rintro e w113 ⟨rfl, hb⟩; refine ⟨_, rfl, ?_⟩; have n0_ := zA (zU (g := gb141) (o := .cells #[.int .i64 a0_0, .int .i64 a0_1, .slice A0_2 l0_2.length c0_2] 26 (0, 0)) (bA_ BK141) hb); have n1_ := zA (zU (g := gb142) (o := .cells #[.int .i64 a1] 3 (0, 0)) (bA_ BK142) hb); have n2_ := zA (below_step (bB_ HB) hb); clear BK141; clear BK142; clear HB; have BK141 := n0_; have BK142 := n1_; have HB := n2_; clear n0_ n1_ n2_; (try clear hb); (try clear hb2); (try clear hk); (try clear hi)))
  go_ret2
  exact ⟨_, by first | rfl | (simp [errW_none, errW_some] <;> rfl) | (simp [*, errW_none, errW_some] <;> rfl), by first | exact Kd.R_nil _ _ _ _ _ | exact Kd.N_nil _ _ _ _ _ | exact Kd.V_nil _ _ _ _ _ | exact Kd.Q_nil _ _ _ _ _ | exact Kd.S_nil _ _ _ _ _, bB_ HB⟩

end Go.Proofs.Ytgmbbcnfcddamaa.PFnContour
