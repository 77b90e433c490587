/- The law FnExactSpectrum holds: for every input the call returns true, and each argument reads behind it as it read before. -/
import Derived.Test.YtlmlhkmkabklmaaRows
import Derived.Test.YtlmlhkmkabklmaaPFnExactSpectrumx4
import Derived.Test.YtlmlhkmkabklmaaPureFnExactSpectrum
import Derived.Test.YtlmlhkmkabklmaaOpenF
import Derived.WalkKit
import Derived.ProofKit
import Derived.OpenShut
import Derived.ShutString
import Derived.ChangeOld
import Derived.Below
import Derived.SizedLaws
namespace Go.Proofs.Ytlmlhkmkabklmaa.fnExactSpectrum
open Go.ChangeShapes Go.WideShapes Go.ChangeAt Go.RowKit Go.Proofs.Ytlmlhkmkabklmaa.Opens Go.Proofs.YtlmlhkmkabklmaaW.PrintWords Go.Proofs.Ytlmlhkmkabklmaa.PFnExactSpectrum
set_option linter.unusedVariables false
theorem own : ownKnob Try.prog.godebug = none := by kernel_rfl
theorem laidOut : laidOutB Try.prog = true := by kernel_rfl
theorem op38 : Opens Try.prog 38 (Kd.flt .f64) (fun x => (Lit.float .f64 x).wf = true) := Opens.float Try.underlying38 (by kernel_rfl)
theorem op22 : Opens Try.prog 22 (Kd.slice 38 (Kd.flt .f64)) (fun x => x.length ≤ maxLen ∧ ∀ y22 ∈ x, (Lit.float .f64 y22).wf = true) := Opens.slice (0 : Nat) Try.underlying22 (by kernel_rfl) op38
set_option maxRecDepth 100000 in
theorem lifted (os : Os) (started : os.Started) (H : Type) (enc : TypeId × Value → H) :
    ReturnsInHanded {} Try.checked os 5 .any (Rows.fnExactSpectrumSpec.pre6 enc Try.prog Try.f5 Rows.fnExactSpectrumRow.domain false) (Rows.fnExactSpectrumSpec.post enc Try.prog Try.f5 false true false false) := by
  refine returnsInHanded_of_change_sized (C := Try.checked) own started (by kernel_rfl) Try.func5
    (ChangeSpec.witness6 (enc := enc) (C := Try.checked) false ⟨#[], #[.slice none 0 0], []⟩ 8 (by kernel_rfl) (by kernel_rfl) (by kernel_rfl) (by kernel_rfl)) ?_
  intro W base args ds gs before hval0 hW hcnd hsz0 _
  have hval : ∀ (j : Nat) t v, Try.f5.params[j]? = some t → args[j]? = some v → Value.okWide Try.prog W .any base t v := hval0
  have hW' := hW
  obtain ⟨p, q, hA0, hV, rfl, hfz, hnd⟩ := hW
  have hA : DataW.TrodAll enc Try.prog W 0 (fun _ => true) true Try.f5.params.toList args.toList ds p := hA0
  rw [Try.params5] at hA hval
  obtain ⟨v0, vs0, d0, ds0, p0, q0, hargs, rfl, rfl, h0, r0⟩ := trodAll_cons hA
  obtain ⟨rfl, rfl, rfl⟩ := trodAll_nil r0
  obtain rfl : args = #[v0] := by cases args; simp_all
  obtain ⟨rfl, rfl⟩ := trodVars_none hV
  have k0 := h0
  have lt0 : ∀ x ∈ p0, x.block < W.heap.size := by obtain ⟨m, hm⟩ := k0; exact DataW.trod_lt m _ _ _ hm
  obtain ⟨aa0, len0, cap0, rfl⟩ := okWide_slice Try.underlying22 (hval 0 22 v0 rfl rfl)
  obtain ⟨fu0, hf0⟩ := h0
  obtain ⟨x0, hk0, hw0⟩ := op22.out hf0
  obtain ⟨A0, c0, ek0, hl0, hC0⟩ := hk0
  simp only [Value.cells, List.cons.injEq, Value.slice.injEq, and_true] at ek0
  obtain ⟨rfl, rfl, rfl⟩ := ek0
  clear hA0 hval0 hsz0
  obtain ⟨kk, hk⟩ := Pure.FnExactSpectrum x0 (hw0)
  refine (Go.Proofs.Ytlmlhkmkabklmaa.PFnExactSpectrum.laws_FnExactSpectrum.calls kk _ _ x0 true W hC0 hl0 hk).mono fun e W' ⟨he, bel⟩ => ?_
  subst he
  exact ⟨_, rfl, _, _, _, [], _, [], hW', trodAll_mk1 (shut_bool Try.underlying4 _), (trodAll_cons_mk (Below.trod laidOut (by kernel_rfl) (of_decide_eq_true (by kernel_rfl)) k0 bel lt0) trodAll_mk0), rfl, bel.frame _, fun h => by cases h⟩
theorem over : Rows.fnExactSpectrumRow.holds Try.pinned (OpenSpec.ofChange Rows.fnExactSpectrumSpec) :=
  OpenClaim.holds_of_wide 5 Try.f5 rfl rfl rfl rfl rfl rfl rfl ⟨rfl, rfl, rfl, rfl, rfl⟩ rfl rfl rfl rfl rfl (by kernel_rfl) Try.func5 (by kernel_rfl)
    (of_decide_eq_true (by kernel_rfl)) (by unfold Func.isWrapper; first | (rw [if_pos (by decide +kernel)]; kernel_rfl) | (rw [if_neg (by decide +kernel)]; exact ⟨rfl, rfl⟩))
    (fun os started H enc _ => lifted os started H enc)
theorem proved : Rows.FnExactSpectrumSaid := over
#print axioms proved
end Go.Proofs.Ytlmlhkmkabklmaa.fnExactSpectrum
namespace Go.Proofs.Ytlmlhkmkabklmaa
/-- The row, under a short name, for the claim. -/
theorem fnExactSpectrum_holds : Rows.FnExactSpectrumSaid := fnExactSpectrum.proved
end Go.Proofs.Ytlmlhkmkabklmaa
