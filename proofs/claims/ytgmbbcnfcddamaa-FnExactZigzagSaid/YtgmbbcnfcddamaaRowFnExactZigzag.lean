/- The law FnExactZigzag holds: for every input the call returns true, and each argument reads behind it as it read before. -/
import Derived.Test.YtgmbbcnfcddamaaRows
import Derived.Test.YtgmbbcnfcddamaaPFnExactZigzagx11
import Derived.Test.YtgmbbcnfcddamaaPureFnExactZigzag
import Derived.Test.YtgmbbcnfcddamaaOpen
import Derived.WalkKit
import Derived.ProofKit
import Derived.OpenShut
import Derived.ShutString
import Derived.ChangeOld
import Derived.Below
import Derived.SizedLaws
namespace Go.Proofs.Ytgmbbcnfcddamaa.fnExactZigzag
open Go.ChangeShapes Go.WideShapes Go.ChangeAt Go.RowKit Go.Proofs.Ytgmbbcnfcddamaa.Opens Go.Proofs.YtgmbbcnfcddamaaW.PrintWords Go.Proofs.Ytgmbbcnfcddamaa.PFnExactZigzag
set_option linter.unusedVariables false
theorem own : ownKnob Try.prog.godebug = none := by kernel_rfl
theorem laidOut : laidOutB Try.prog = true := by kernel_rfl
theorem op3 : Opens Try.prog 3 (Kd.int .i64) (fun x => (Lit.int .i64 x).wf = true) := Opens.int Try.underlying3 (by kernel_rfl)
theorem op22 : Opens Try.prog 22 (Kd.slice 3 (Kd.int .i64)) (fun x => x.length ≤ maxLen ∧ ∀ y22 ∈ x, (Lit.int .i64 y22).wf = true) := Opens.slice (0 : Int) Try.underlying22 (by kernel_rfl) op3
theorem op24 : Opens Try.prog 24 (Kd.pair (Kd.int .i64) (Kd.pair (Kd.int .i64) (Kd.slice 3 (Kd.int .i64)))) (fun x => ((Lit.int .i64 x.1).wf = true) ∧ ((Lit.int .i64 x.2.1).wf = true) ∧ (x.2.2.length ≤ maxLen ∧ ∀ y22 ∈ x.2.2, (Lit.int .i64 y22).wf = true)) := Opens.struct Try.underlying24 (by kernel_rfl) (OpensF.cons (wf := fun (x : Int) => (Lit.int .i64 x).wf = true) (wf' := fun (x : (Int) × List Int) => ((Lit.int .i64 x.1).wf = true) ∧ (x.2.length ≤ maxLen ∧ ∀ y22 ∈ x.2, (Lit.int .i64 y22).wf = true)) rfl op3 (OpensF.cons (wf := fun (x : Int) => (Lit.int .i64 x).wf = true) (wf' := fun (x : List Int) => x.length ≤ maxLen ∧ ∀ y22 ∈ x, (Lit.int .i64 y22).wf = true) rfl op3 (OpensF.one rfl op22)))
set_option maxRecDepth 100000 in
theorem lifted (os : Os) (started : os.Started) (H : Type) (enc : TypeId × Value → H) :
    ReturnsInHanded {} Try.checked os 6 .any (Rows.fnExactZigzagSpec.pre6 enc Try.prog Try.f6 Rows.fnExactZigzagRow.domain false) (Rows.fnExactZigzagSpec.post enc Try.prog Try.f6 false true false false) := by
  refine returnsInHanded_of_change_sized (C := Try.checked) own started (by kernel_rfl) Try.func6
    (ChangeSpec.witness6 (enc := enc) (C := Try.checked) false ⟨#[], #[.agg #[.int .i64 0, .int .i64 0, .slice none 0 0], .agg #[.int .i64 0, .int .i64 0, .slice none 0 0], .int .i64 0, .int .i64 0], []⟩ 8 (by kernel_rfl) (by kernel_rfl) (by kernel_rfl) (by kernel_rfl)) ?_
  intro W base args ds gs before hval0 hW hcnd hsz0 _
  have hval : ∀ (j : Nat) t v, Try.f6.params[j]? = some t → args[j]? = some v → Value.okWide Try.prog W .any base t v := hval0
  have hW' := hW
  obtain ⟨p, q, hA0, hV, rfl, hfz, hnd⟩ := hW
  have hA : DataW.TrodAll enc Try.prog W 0 (fun _ => true) true Try.f6.params.toList args.toList ds p := hA0
  rw [Try.params6] at hA hval
  obtain ⟨v0, vs0, d0, ds0, p0, q0, hargs, rfl, rfl, h0, r0⟩ := trodAll_cons hA
  obtain ⟨v1, vs1, d1, ds1, p1, q1, rfl, rfl, rfl, h1, r1⟩ := trodAll_cons r0
  obtain ⟨v2, vs2, d2, ds2, p2, q2, rfl, rfl, rfl, h2, r2⟩ := trodAll_cons r1
  obtain ⟨v3, vs3, d3, ds3, p3, q3, rfl, rfl, rfl, h3, r3⟩ := trodAll_cons r2
  obtain ⟨rfl, rfl, rfl⟩ := trodAll_nil r3
  obtain rfl : args = #[v0, v1, v2, v3] := by cases args; simp_all
  obtain ⟨rfl, rfl⟩ := trodVars_none hV
  have k0 := h0
  have lt0 : ∀ x ∈ p0, x.block < W.heap.size := by obtain ⟨m, hm⟩ := k0; exact DataW.trod_lt m _ _ _ hm
  obtain ⟨cs0, rfl, hcs0⟩ := agg_cells Try.underlying24 (hval 0 24 v0 rfl rfl)
  obtain ⟨fu0, hf0⟩ := h0
  rw [hcs0] at hf0
  obtain ⟨x0, hk0, hw0⟩ := op24.out hf0
  obtain ⟨x0_0, x0_1, x0_2⟩ := x0
  obtain ⟨ca0_0, cb0_0, ec0_0, kk0_0, hk0_1⟩ := hk0
  have ek0_0 : _ = [Value.int .i64 x0_0] := kk0_0
  obtain ⟨ca0_1, cb0_1, ec0_1, kk0_1, hk0_2⟩ := hk0_1
  have ek0_1 : _ = [Value.int .i64 x0_1] := kk0_1
  obtain ⟨A0_2, c0_2, ek0_2, hl0_2, hC0_2⟩ := hk0_2
  have hz0 : cs0.toList = [.int .i64 x0_0, .int .i64 x0_1, .slice A0_2 x0_2.length c0_2] := by rw [ec0_0, ek0_0, ec0_1, ek0_1, ek0_2]; rfl
  obtain rfl : cs0 = #[.int .i64 x0_0, .int .i64 x0_1, .slice A0_2 x0_2.length c0_2] := by apply Array.ext'; exact hz0
  have k1 := h1
  have lt1 : ∀ x ∈ p1, x.block < W.heap.size := by obtain ⟨m, hm⟩ := k1; exact DataW.trod_lt m _ _ _ hm
  obtain ⟨cs1, rfl, hcs1⟩ := agg_cells Try.underlying24 (hval 1 24 v1 rfl rfl)
  obtain ⟨fu1, hf1⟩ := h1
  rw [hcs1] at hf1
  obtain ⟨x1, hk1, hw1⟩ := op24.out hf1
  obtain ⟨x1_0, x1_1, x1_2⟩ := x1
  obtain ⟨ca1_0, cb1_0, ec1_0, kk1_0, hk1_1⟩ := hk1
  have ek1_0 : _ = [Value.int .i64 x1_0] := kk1_0
  obtain ⟨ca1_1, cb1_1, ec1_1, kk1_1, hk1_2⟩ := hk1_1
  have ek1_1 : _ = [Value.int .i64 x1_1] := kk1_1
  obtain ⟨A1_2, c1_2, ek1_2, hl1_2, hC1_2⟩ := hk1_2
  have hz1 : cs1.toList = [.int .i64 x1_0, .int .i64 x1_1, .slice A1_2 x1_2.length c1_2] := by rw [ec1_0, ek1_0, ec1_1, ek1_1, ek1_2]; rfl
  obtain rfl : cs1 = #[.int .i64 x1_0, .int .i64 x1_1, .slice A1_2 x1_2.length c1_2] := by apply Array.ext'; exact hz1
  have k2 := h2
  have lt2 : ∀ x ∈ p2, x.block < W.heap.size := by obtain ⟨m, hm⟩ := k2; exact DataW.trod_lt m _ _ _ hm
  obtain ⟨a2, rfl⟩ := okWide_int Try.underlying3 (hval 2 3 v2 rfl rfl)
  obtain ⟨fu2, hf2⟩ := h2
  obtain ⟨x2, hk2, hw2⟩ := op3.out hf2
  obtain rfl : a2 = x2 := by have z : [_] = [_] := hk2; simpa [Value.cells] using z
  have k3 := h3
  have lt3 : ∀ x ∈ p3, x.block < W.heap.size := by obtain ⟨m, hm⟩ := k3; exact DataW.trod_lt m _ _ _ hm
  obtain ⟨a3, rfl⟩ := okWide_int Try.underlying3 (hval 3 3 v3 rfl rfl)
  obtain ⟨fu3, hf3⟩ := h3
  obtain ⟨x3, hk3, hw3⟩ := op3.out hf3
  obtain rfl : a3 = x3 := by have z : [_] = [_] := hk3; simpa [Value.cells] using z
  clear hA0 hval0 hsz0
  obtain ⟨kk, hk⟩ := Pure.FnExactZigzag x0_0 x0_1 x0_2 x1_0 x1_1 x1_2 a2 a3 (hw0.1) (hw0.2.1) (hw0.2.2) (hw1.1) (hw1.2.1) (hw1.2.2) (hw2) (hw3)
  refine (Go.Proofs.Ytgmbbcnfcddamaa.PFnExactZigzag.laws_FnExactZigzag.calls kk x0_0 x0_1 A0_2 c0_2 x0_2 x1_0 x1_1 A1_2 c1_2 x1_2 a2 a3 true W hC0_2 hl0_2 hC1_2 hl1_2 hk).mono fun e W' ⟨he, bel⟩ => ?_
  subst he
  exact ⟨_, rfl, _, _, _, [], _, [], hW', trodAll_mk1 (shut_bool Try.underlying4 _), (trodAll_cons_mk (Below.trod laidOut (by kernel_rfl) (of_decide_eq_true (by kernel_rfl)) k0 bel lt0) (trodAll_cons_mk (Below.trod laidOut (by kernel_rfl) (of_decide_eq_true (by kernel_rfl)) k1 bel lt1) (trodAll_cons_mk (Below.trod laidOut (by kernel_rfl) (of_decide_eq_true (by kernel_rfl)) k2 bel lt2) (trodAll_cons_mk (Below.trod laidOut (by kernel_rfl) (of_decide_eq_true (by kernel_rfl)) k3 bel lt3) trodAll_mk0)))), rfl, bel.frame _, fun h => by cases h⟩
theorem over : Rows.fnExactZigzagRow.holds Try.pinned (OpenSpec.ofChange Rows.fnExactZigzagSpec) :=
  OpenClaim.holds_of_wide 6 Try.f6 rfl rfl rfl rfl rfl rfl rfl ⟨rfl, rfl, rfl, rfl, rfl⟩ rfl rfl rfl rfl rfl (by kernel_rfl) Try.func6 (by kernel_rfl)
    (of_decide_eq_true (by kernel_rfl)) (by unfold Func.isWrapper; first | (rw [if_pos (by decide +kernel)]; kernel_rfl) | (rw [if_neg (by decide +kernel)]; exact ⟨rfl, rfl⟩))
    (fun os started H enc _ => lifted os started H enc)
theorem proved : Rows.FnExactZigzagSaid := over
#print axioms proved
end Go.Proofs.Ytgmbbcnfcddamaa.fnExactZigzag
namespace Go.Proofs.Ytgmbbcnfcddamaa
/-- The row, under a short name, for the claim. -/
theorem fnExactZigzag_holds : Rows.FnExactZigzagSaid := fnExactZigzag.proved
end Go.Proofs.Ytgmbbcnfcddamaa
