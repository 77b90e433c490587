/- The law FnKinds holds: for every input the call returns true, and each argument reads behind it as it read before. -/
import Derived.Test.YtbfjpolihoaafaaRows
import Derived.Test.YtbfjpolihoaafaaPFnKindsx2
import Derived.Test.YtbfjpolihoaafaaPureFnKinds
import Derived.Test.YtbfjpolihoaafaaOpen
import Derived.WalkKit
import Derived.ProofKit
import Derived.OpenShut
import Derived.ShutString
import Derived.ChangeOld
import Derived.Below
import Derived.SizedLaws
namespace Go.Proofs.Ytbfjpolihoaafaa.fnKinds
open Go.ChangeShapes Go.WideShapes Go.ChangeAt Go.RowKit Go.Proofs.Ytbfjpolihoaafaa.Opens Go.Proofs.YtbfjpolihoaafaaW.PrintWords Go.Proofs.Ytbfjpolihoaafaa.PFnKinds
set_option linter.unusedVariables false
theorem own : ownKnob Try.prog.godebug = none := by kernel_rfl
theorem laidOut : laidOutB Try.prog = true := by kernel_rfl
theorem op5 : Opens Try.prog 5 (Kd.int .u8) (fun x => (Lit.int .u8 x).wf = true) := Opens.int Try.underlying5 (by kernel_rfl)
theorem op34 : Opens Try.prog 34 (Kd.slice 5 (Kd.int .u8)) (fun x => x.length ≤ maxLen ∧ ∀ y34 ∈ x, (Lit.int .u8 y34).wf = true) := Opens.slice (0 : Int) Try.underlying34 (by kernel_rfl) op5
set_option maxRecDepth 100000 in
theorem lifted (os : Os) (started : os.Started) (H : Type) (enc : TypeId × Value → H) :
    ReturnsInHanded {} Try.checked os 11 .any (Rows.fnKindsSpec.pre6 enc Try.prog Try.f11 Rows.fnKindsRow.domain false) (Rows.fnKindsSpec.post enc Try.prog Try.f11 false true false false) := by
  refine returnsInHanded_of_change_sized (C := Try.checked) own started (by kernel_rfl) Try.func11
    (ChangeSpec.witness6 (enc := enc) (C := Try.checked) false ⟨#[], #[.slice none 0 0, .slice none 0 0], []⟩ 8 (by kernel_rfl) (by kernel_rfl) (by kernel_rfl) (by kernel_rfl)) ?_
  intro W base args ds gs before hval0 hW hcnd hsz0 _
  have hval : ∀ (j : Nat) t v, Try.f11.params[j]? = some t → args[j]? = some v → Value.okWide Try.prog W .any base t v := hval0
  have hW' := hW
  obtain ⟨p, q, hA0, hV, rfl, hfz, hnd⟩ := hW
  have hA : DataW.TrodAll enc Try.prog W 0 (fun _ => true) true Try.f11.params.toList args.toList ds p := hA0
  rw [Try.params11] at hA hval
  obtain ⟨v0, vs0, d0, ds0, p0, q0, hargs, rfl, rfl, h0, r0⟩ := trodAll_cons hA
  obtain ⟨v1, vs1, d1, ds1, p1, q1, rfl, rfl, rfl, h1, r1⟩ := trodAll_cons r0
  obtain ⟨rfl, rfl, rfl⟩ := trodAll_nil r1
  obtain rfl : args = #[v0, v1] := by cases args; simp_all
  obtain ⟨rfl, rfl⟩ := trodVars_none hV
  have k0 := h0
  have lt0 : ∀ x ∈ p0, x.block < W.heap.size := by obtain ⟨m, hm⟩ := k0; exact DataW.trod_lt m _ _ _ hm
  obtain ⟨aa0, len0, cap0, rfl⟩ := okWide_slice Try.underlying34 (hval 0 34 v0 rfl rfl)
  obtain ⟨fu0, hf0⟩ := h0
  obtain ⟨x0, hk0, hw0⟩ := op34.out hf0
  obtain ⟨A0, c0, ek0, hl0, hC0⟩ := hk0
  simp only [Value.cells, List.cons.injEq, Value.slice.injEq, and_true] at ek0
  obtain ⟨rfl, rfl, rfl⟩ := ek0
  have k1 := h1
  have lt1 : ∀ x ∈ p1, x.block < W.heap.size := by obtain ⟨m, hm⟩ := k1; exact DataW.trod_lt m _ _ _ hm
  obtain ⟨aa1, len1, cap1, rfl⟩ := okWide_slice Try.underlying34 (hval 1 34 v1 rfl rfl)
  obtain ⟨fu1, hf1⟩ := h1
  obtain ⟨x1, hk1, hw1⟩ := op34.out hf1
  obtain ⟨A1, c1, ek1, hl1, hC1⟩ := hk1
  simp only [Value.cells, List.cons.injEq, Value.slice.injEq, and_true] at ek1
  obtain ⟨rfl, rfl, rfl⟩ := ek1
  clear hA0 hval0 hsz0
  obtain ⟨kk, hk⟩ := Pure.FnKinds x0 x1 (hw0) (hw1)
  refine (Go.Proofs.Ytbfjpolihoaafaa.PFnKinds.laws_FnKinds.calls kk _ _ x0 _ _ x1 true W hC0 hl0 hC1 hl1 hk).mono fun e W' ⟨he, bel⟩ => ?_
  subst he
  exact ⟨_, rfl, _, _, _, [], _, [], hW', trodAll_mk1 (shut_bool Try.underlying4 _), (trodAll_cons_mk (Below.trod laidOut (by kernel_rfl) (of_decide_eq_true (by kernel_rfl)) k0 bel lt0) (trodAll_cons_mk (Below.trod laidOut (by kernel_rfl) (of_decide_eq_true (by kernel_rfl)) k1 bel lt1) trodAll_mk0)), rfl, bel.frame _, fun h => by cases h⟩
theorem over : Rows.fnKindsRow.holds Try.pinned (OpenSpec.ofChange Rows.fnKindsSpec) :=
  OpenClaim.holds_of_wide 11 Try.f11 rfl rfl rfl rfl rfl rfl rfl ⟨rfl, rfl, rfl, rfl, rfl⟩ rfl rfl rfl rfl rfl (by kernel_rfl) Try.func11 (by kernel_rfl)
    (of_decide_eq_true (by kernel_rfl)) (by unfold Func.isWrapper; first | (rw [if_pos (by decide +kernel)]; kernel_rfl) | (rw [if_neg (by decide +kernel)]; exact ⟨rfl, rfl⟩))
    (fun os started H enc _ => lifted os started H enc)
theorem proved : Rows.FnKindsSaid := over
#print axioms proved
end Go.Proofs.Ytbfjpolihoaafaa.fnKinds
namespace Go.Proofs.Ytbfjpolihoaafaa
/-- The row, under a short name, for the claim. -/
theorem fnKinds_holds : Rows.FnKindsSaid := fnKinds.proved
end Go.Proofs.Ytbfjpolihoaafaa
