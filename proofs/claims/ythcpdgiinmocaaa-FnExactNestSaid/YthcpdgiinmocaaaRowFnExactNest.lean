/- The law FnExactNest holds: for every input the call returns true, and each argument reads behind it as it read before. -/
import Derived.Test.YthcpdgiinmocaaaRows
import Derived.Test.YthcpdgiinmocaaaPFnExactNestx9
import Derived.Test.YthcpdgiinmocaaaPureFnExactNest
import Derived.Test.YthcpdgiinmocaaaOpen
import Derived.WalkKit
import Derived.ProofKit
import Derived.OpenShut
import Derived.ShutString
import Derived.ChangeOld
import Derived.Below
import Derived.SizedLaws
namespace Go.Proofs.Ythcpdgiinmocaaa.fnExactNest
open Go.ChangeShapes Go.WideShapes Go.ChangeAt Go.RowKit Go.Proofs.Ythcpdgiinmocaaa.Opens Go.Proofs.YthcpdgiinmocaaaW.PrintWords Go.Proofs.Ythcpdgiinmocaaa.PFnExactNest
set_option linter.unusedVariables false
theorem own : ownKnob Try.prog.godebug = none := by kernel_rfl
theorem laidOut : laidOutB Try.prog = true := by kernel_rfl
theorem op3 : Opens Try.prog 3 (Kd.int .i64) (fun x => (Lit.int .i64 x).wf = true) := Opens.int Try.underlying3 (by kernel_rfl)
theorem op108 : Opens Try.prog 108 k108 (fun x => ((Lit.int .i64 x.f0).wf = true) ∧ ((Lit.int .i64 x.f1).wf = true)) := Opens.iso (d := (Kd.pair (Kd.int .i64) (Kd.int .i64))) (fun x : S108 => (x.f0, x.f1)) (fun p => ⟨p.1, p.2⟩) (fun _ => rfl) (Opens.struct Try.underlying108 (by kernel_rfl) (OpensF.cons (wf := fun (x : Int) => (Lit.int .i64 x).wf = true) (wf' := fun (x : Int) => (Lit.int .i64 x).wf = true) rfl op3 (OpensF.one rfl op3)))
theorem op60 : Opens Try.prog 60 (Kd.slice 108 k108) (fun x => x.length ≤ maxLen ∧ ∀ y60 ∈ x, ((Lit.int .i64 y60.f0).wf = true) ∧ ((Lit.int .i64 y60.f1).wf = true)) := Opens.slice z108 Try.underlying60 (by kernel_rfl) op108
set_option maxRecDepth 100000 in
theorem lifted (os : Os) (started : os.Started) (H : Type) (enc : TypeId × Value → H) :
    ReturnsInHanded {} Try.checked os 6 .any (Rows.fnExactNestSpec.pre6 enc Try.prog Try.f6 Rows.fnExactNestRow.domain false) (Rows.fnExactNestSpec.post enc Try.prog Try.f6 false true false false) := by
  refine returnsInHanded_of_change_sized (C := Try.checked) own started (by kernel_rfl) Try.func6
    (ChangeSpec.witness6 (enc := enc) (C := Try.checked) false ⟨#[], #[.int .i64 0, .slice none 0 0], []⟩ 8 (by kernel_rfl) (by kernel_rfl) (by kernel_rfl) (by kernel_rfl)) ?_
  intro W base args ds gs before hval0 hW hcnd hsz0 _
  have hval : ∀ (j : Nat) t v, Try.f6.params[j]? = some t → args[j]? = some v → Value.okWide Try.prog W .any base t v := hval0
  have hW' := hW
  obtain ⟨p, q, hA0, hV, rfl, hfz, hnd⟩ := hW
  have hA : DataW.TrodAll enc Try.prog W 0 (fun _ => true) true Try.f6.params.toList args.toList ds p := hA0
  rw [Try.params6] at hA hval
  obtain ⟨v0, vs0, d0, ds0, p0, q0, hargs, rfl, rfl, h0, r0⟩ := trodAll_cons hA
  obtain ⟨v1, vs1, d1, ds1, p1, q1, rfl, rfl, rfl, h1, r1⟩ := trodAll_cons r0
  obtain ⟨rfl, rfl, rfl⟩ := trodAll_nil r1
  obtain rfl : args = #[v0, v1] := by cases args; simp_all
  obtain ⟨rfl, rfl⟩ := trodVars_none hV
  have k0 := h0
  have lt0 : ∀ x ∈ p0, x.block < W.heap.size := by obtain ⟨m, hm⟩ := k0; exact DataW.trod_lt m _ _ _ hm
  obtain ⟨a0, rfl⟩ := okWide_int Try.underlying3 (hval 0 3 v0 rfl rfl)
  obtain ⟨fu0, hf0⟩ := h0
  obtain ⟨x0, hk0, hw0⟩ := op3.out hf0
  obtain rfl : a0 = x0 := by have z : [_] = [_] := hk0; simpa [Value.cells] using z
  have k1 := h1
  have lt1 : ∀ x ∈ p1, x.block < W.heap.size := by obtain ⟨m, hm⟩ := k1; exact DataW.trod_lt m _ _ _ hm
  obtain ⟨aa1, len1, cap1, rfl⟩ := okWide_slice Try.underlying60 (hval 1 60 v1 rfl rfl)
  obtain ⟨fu1, hf1⟩ := h1
  obtain ⟨x1, hk1, hw1⟩ := op60.out hf1
  obtain ⟨A1, c1, ek1, hl1, hC1⟩ := hk1
  simp only [Value.cells, List.cons.injEq, Value.slice.injEq, and_true] at ek1
  obtain ⟨rfl, rfl, rfl⟩ := ek1
  clear hA0 hval0 hsz0
  obtain ⟨kk, hk⟩ := Pure.FnExactNest a0 x1 (hw0) (hw1)
  refine (Go.Proofs.Ythcpdgiinmocaaa.PFnExactNest.laws_FnExactNest.calls kk a0 _ _ x1 true W hC1 hl1 hk).mono fun e W' ⟨he, bel⟩ => ?_
  subst he
  exact ⟨_, rfl, _, _, _, [], _, [], hW', trodAll_mk1 (shut_bool Try.underlying4 _), (trodAll_cons_mk (Below.trod laidOut (by kernel_rfl) (of_decide_eq_true (by kernel_rfl)) k0 bel lt0) (trodAll_cons_mk (Below.trod laidOut (by kernel_rfl) (of_decide_eq_true (by kernel_rfl)) k1 bel lt1) trodAll_mk0)), rfl, bel.frame _, fun h => by cases h⟩
theorem over : Rows.fnExactNestRow.holds Try.pinned (OpenSpec.ofChange Rows.fnExactNestSpec) :=
  OpenClaim.holds_of_wide 6 Try.f6 rfl rfl rfl rfl rfl rfl rfl ⟨rfl, rfl, rfl, rfl, rfl⟩ rfl rfl rfl rfl rfl (by kernel_rfl) Try.func6 (by kernel_rfl)
    (of_decide_eq_true (by kernel_rfl)) (by unfold Func.isWrapper; first | (rw [if_pos (by decide +kernel)]; kernel_rfl) | (rw [if_neg (by decide +kernel)]; exact ⟨rfl, rfl⟩))
    (fun os started H enc _ => lifted os started H enc)
theorem proved : Rows.FnExactNestSaid := over
#print axioms proved
end Go.Proofs.Ythcpdgiinmocaaa.fnExactNest
namespace Go.Proofs.Ythcpdgiinmocaaa
/-- The row, under a short name, for the claim. -/
theorem fnExactNest_holds : Rows.FnExactNestSaid := fnExactNest.proved
end Go.Proofs.Ythcpdgiinmocaaa
