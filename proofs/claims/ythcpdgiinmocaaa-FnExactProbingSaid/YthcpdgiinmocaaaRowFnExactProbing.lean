/- The law FnExactProbing holds: for every input the call returns true, and each argument reads behind it as it read before. -/
import Derived.Test.YthcpdgiinmocaaaRows
import Derived.Test.YthcpdgiinmocaaaPFnExactProbingx6
import Derived.Test.YthcpdgiinmocaaaPureFnExactProbing
import Derived.Test.YthcpdgiinmocaaaOpen
import Derived.WalkKit
import Derived.ProofKit
import Derived.OpenShut
import Derived.ShutString
import Derived.ChangeOld
import Derived.Below
import Derived.SizedLaws
namespace Go.Proofs.Ythcpdgiinmocaaa.fnExactProbing
open Go.ChangeShapes Go.WideShapes Go.ChangeAt Go.RowKit Go.Proofs.Ythcpdgiinmocaaa.Opens Go.Proofs.YthcpdgiinmocaaaW.PrintWords Go.Proofs.Ythcpdgiinmocaaa.PFnExactProbing
set_option linter.unusedVariables false
theorem own : ownKnob Try.prog.godebug = none := by kernel_rfl
theorem laidOut : laidOutB Try.prog = true := by kernel_rfl
theorem op3 : Opens Try.prog 3 (Kd.int .i64) (fun x => (Lit.int .i64 x).wf = true) := Opens.int Try.underlying3 (by kernel_rfl)
theorem op38 : Opens Try.prog 38 k38 (fun x => ((Lit.int .i64 x.f0).wf = true) ∧ ((Lit.int .i64 x.f1).wf = true)) := Opens.iso (d := (Kd.pair (Kd.int .i64) (Kd.int .i64))) (fun x : S38 => (x.f0, x.f1)) (fun p => ⟨p.1, p.2⟩) (fun _ => rfl) (Opens.struct Try.underlying38 (by kernel_rfl) (OpensF.cons (wf := fun (x : Int) => (Lit.int .i64 x).wf = true) (wf' := fun (x : Int) => (Lit.int .i64 x).wf = true) rfl op3 (OpensF.one rfl op3)))
theorem op36 : Opens Try.prog 36 (Kd.slice 38 k38) (fun x => x.length ≤ maxLen ∧ ∀ y36 ∈ x, ((Lit.int .i64 y36.f0).wf = true) ∧ ((Lit.int .i64 y36.f1).wf = true)) := Opens.slice z38 Try.underlying36 (by kernel_rfl) op38
set_option maxRecDepth 100000 in
theorem lifted (os : Os) (started : os.Started) (H : Type) (enc : TypeId × Value → H) :
    ReturnsInHanded {} Try.checked os 4 .any (Rows.fnExactProbingSpec.pre6 enc Try.prog Try.f4 Rows.fnExactProbingRow.domain false) (Rows.fnExactProbingSpec.post enc Try.prog Try.f4 false true false false) := by
  refine returnsInHanded_of_change_sized (C := Try.checked) own started (by kernel_rfl) Try.func4
    (ChangeSpec.witness6 (enc := enc) (C := Try.checked) false ⟨#[], #[.slice none 0 0, .agg #[.int .i64 0, .int .i64 0]], []⟩ 8 (by kernel_rfl) (by kernel_rfl) (by kernel_rfl) (by kernel_rfl)) ?_
  intro W base args ds gs before hval0 hW hcnd hsz0 _
  have hval : ∀ (j : Nat) t v, Try.f4.params[j]? = some t → args[j]? = some v → Value.okWide Try.prog W .any base t v := hval0
  have hW' := hW
  obtain ⟨p, q, hA0, hV, rfl, hfz, hnd⟩ := hW
  have hA : DataW.TrodAll enc Try.prog W 0 (fun _ => true) true Try.f4.params.toList args.toList ds p := hA0
  rw [Try.params4] at hA hval
  obtain ⟨v0, vs0, d0, ds0, p0, q0, hargs, rfl, rfl, h0, r0⟩ := trodAll_cons hA
  obtain ⟨v1, vs1, d1, ds1, p1, q1, rfl, rfl, rfl, h1, r1⟩ := trodAll_cons r0
  obtain ⟨rfl, rfl, rfl⟩ := trodAll_nil r1
  obtain rfl : args = #[v0, v1] := by cases args; simp_all
  obtain ⟨rfl, rfl⟩ := trodVars_none hV
  have k0 := h0
  have lt0 : ∀ x ∈ p0, x.block < W.heap.size := by obtain ⟨m, hm⟩ := k0; exact DataW.trod_lt m _ _ _ hm
  obtain ⟨aa0, len0, cap0, rfl⟩ := okWide_slice Try.underlying36 (hval 0 36 v0 rfl rfl)
  obtain ⟨fu0, hf0⟩ := h0
  obtain ⟨x0, hk0, hw0⟩ := op36.out hf0
  obtain ⟨A0, c0, ek0, hl0, hC0⟩ := hk0
  simp only [Value.cells, List.cons.injEq, Value.slice.injEq, and_true] at ek0
  obtain ⟨rfl, rfl, rfl⟩ := ek0
  have k1 := h1
  have lt1 : ∀ x ∈ p1, x.block < W.heap.size := by obtain ⟨m, hm⟩ := k1; exact DataW.trod_lt m _ _ _ hm
  obtain ⟨cs1, rfl, hcs1⟩ := agg_cells Try.underlying38 (hval 1 38 v1 rfl rfl)
  obtain ⟨fu1, hf1⟩ := h1
  rw [hcs1] at hf1
  obtain ⟨x1, hk1, hw1⟩ := op38.out hf1
  obtain ⟨x1_0, x1_1⟩ := x1
  obtain ⟨ca1_0, cb1_0, ec1_0, kk1_0, hk1_1⟩ := hk1
  have ek1_0 : _ = [Value.int .i64 x1_0] := kk1_0
  have ek1_1 : _ = [Value.int .i64 x1_1] := hk1_1
  have hz1 : cs1.toList = [.int .i64 x1_0, .int .i64 x1_1] := by rw [ec1_0, ek1_0, ek1_1]; rfl
  obtain rfl : cs1 = #[.int .i64 x1_0, .int .i64 x1_1] := by apply Array.ext'; exact hz1
  clear hA0 hval0 hsz0
  obtain ⟨kk, hk⟩ := Pure.FnExactProbing x0 x1_0 x1_1 (hw0) (hw1.1) (hw1.2)
  refine (Go.Proofs.Ythcpdgiinmocaaa.PFnExactProbing.laws_FnExactProbing.calls kk _ _ x0 x1_0 x1_1 true W hC0 hl0 hk).mono fun e W' ⟨he, bel⟩ => ?_
  subst he
  exact ⟨_, rfl, _, _, _, [], _, [], hW', trodAll_mk1 (shut_bool Try.underlying4 _), (trodAll_cons_mk (Below.trod laidOut (by kernel_rfl) (of_decide_eq_true (by kernel_rfl)) k0 bel lt0) (trodAll_cons_mk (Below.trod laidOut (by kernel_rfl) (of_decide_eq_true (by kernel_rfl)) k1 bel lt1) trodAll_mk0)), rfl, bel.frame _, fun h => by cases h⟩
theorem over : Rows.fnExactProbingRow.holds Try.pinned (OpenSpec.ofChange Rows.fnExactProbingSpec) :=
  OpenClaim.holds_of_wide 4 Try.f4 rfl rfl rfl rfl rfl rfl rfl ⟨rfl, rfl, rfl, rfl, rfl⟩ rfl rfl rfl rfl rfl (by kernel_rfl) Try.func4 (by kernel_rfl)
    (of_decide_eq_true (by kernel_rfl)) (by unfold Func.isWrapper; first | (rw [if_pos (by decide +kernel)]; kernel_rfl) | (rw [if_neg (by decide +kernel)]; exact ⟨rfl, rfl⟩))
    (fun os started H enc _ => lifted os started H enc)
theorem proved : Rows.FnExactProbingSaid := over
#print axioms proved
end Go.Proofs.Ythcpdgiinmocaaa.fnExactProbing
namespace Go.Proofs.Ythcpdgiinmocaaa
/-- The row, under a short name, for the claim. -/
theorem fnExactProbing_holds : Rows.FnExactProbingSaid := fnExactProbing.proved
end Go.Proofs.Ythcpdgiinmocaaa
