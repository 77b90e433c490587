/- The law FnExactSketchMove holds: for every input the call returns true, and each argument reads behind it as it read before. -/
import Derived.Test.YtnbkdfnlggmopaaRows
import Derived.Test.YtnbkdfnlggmopaaPFnExactSketchMovex14
import Derived.Test.YtnbkdfnlggmopaaPureFnExactSketchMove
import Derived.Test.YtnbkdfnlggmopaaOpen
import Derived.WalkKit
import Derived.ProofKit
import Derived.OpenShut
import Derived.ShutString
import Derived.ChangeOld
import Derived.Below
import Derived.SizedLaws
namespace Go.Proofs.Ytnbkdfnlggmopaa.fnExactSketchMove
open Go.ChangeShapes Go.WideShapes Go.ChangeAt Go.RowKit Go.Proofs.Ytnbkdfnlggmopaa.Opens Go.Proofs.YtnbkdfnlggmopaaW.PrintWords Go.Proofs.Ytnbkdfnlggmopaa.PFnExactSketchMove
set_option linter.unusedVariables false
theorem own : ownKnob Try.prog.godebug = none := by kernel_rfl
theorem laidOut : laidOutB Try.prog = true := by kernel_rfl
theorem op3 : Opens Try.prog 3 (Kd.int .i64) (fun x => (Lit.int .i64 x).wf = true) := Opens.int Try.underlying3 (by kernel_rfl)
theorem op85 : Opens Try.prog 85 k85 (fun x => ((Lit.int .i64 x.f0).wf = true) ∧ ((Lit.int .i64 x.f1).wf = true) ∧ ((Lit.int .i64 x.f2).wf = true) ∧ ((Lit.int .i64 x.f3).wf = true)) := Opens.iso (d := (Kd.pair (Kd.int .i64) (Kd.pair (Kd.int .i64) (Kd.pair (Kd.int .i64) (Kd.int .i64))))) (fun x : S85 => (x.f0, x.f1, x.f2, x.f3)) (fun p => ⟨p.1, p.2.1, p.2.2.1, p.2.2.2⟩) (fun _ => rfl) (Opens.struct Try.underlying85 (by kernel_rfl) (OpensF.cons (wf := fun (x : Int) => (Lit.int .i64 x).wf = true) (wf' := fun (x : (Int) × (Int) × Int) => ((Lit.int .i64 x.1).wf = true) ∧ (((Lit.int .i64 x.2.1).wf = true) ∧ ((Lit.int .i64 x.2.2).wf = true))) rfl op3 (OpensF.cons (wf := fun (x : Int) => (Lit.int .i64 x).wf = true) (wf' := fun (x : (Int) × Int) => ((Lit.int .i64 x.1).wf = true) ∧ ((Lit.int .i64 x.2).wf = true)) rfl op3 (OpensF.cons (wf := fun (x : Int) => (Lit.int .i64 x).wf = true) (wf' := fun (x : Int) => (Lit.int .i64 x).wf = true) rfl op3 (OpensF.one rfl op3)))))
theorem op37 : Opens Try.prog 37 (Kd.slice 85 k85) (fun x => x.length ≤ maxLen ∧ ∀ y37 ∈ x, ((Lit.int .i64 y37.f0).wf = true) ∧ ((Lit.int .i64 y37.f1).wf = true) ∧ ((Lit.int .i64 y37.f2).wf = true) ∧ ((Lit.int .i64 y37.f3).wf = true)) := Opens.slice z85 Try.underlying37 (by kernel_rfl) op85
theorem op39 : Opens Try.prog 39 (Kd.pair (Kd.int .i64) (Kd.slice 85 k85)) (fun x => ((Lit.int .i64 x.1).wf = true) ∧ (x.2.length ≤ maxLen ∧ ∀ y37 ∈ x.2, ((Lit.int .i64 y37.f0).wf = true) ∧ ((Lit.int .i64 y37.f1).wf = true) ∧ ((Lit.int .i64 y37.f2).wf = true) ∧ ((Lit.int .i64 y37.f3).wf = true))) := Opens.struct Try.underlying39 (by kernel_rfl) (OpensF.cons (wf := fun (x : Int) => (Lit.int .i64 x).wf = true) (wf' := fun (x : List S85) => x.length ≤ maxLen ∧ ∀ y37 ∈ x, ((Lit.int .i64 y37.f0).wf = true) ∧ ((Lit.int .i64 y37.f1).wf = true) ∧ ((Lit.int .i64 y37.f2).wf = true) ∧ ((Lit.int .i64 y37.f3).wf = true)) rfl op3 (OpensF.one rfl op37))
theorem op53 : Opens Try.prog 53 (Kd.pair (Kd.int .i64) (Kd.int .i64)) (fun x => ((Lit.int .i64 x.1).wf = true) ∧ ((Lit.int .i64 x.2).wf = true)) := Opens.struct Try.underlying53 (by kernel_rfl) (OpensF.cons (wf := fun (x : Int) => (Lit.int .i64 x).wf = true) (wf' := fun (x : Int) => (Lit.int .i64 x).wf = true) rfl op3 (OpensF.one rfl op3))
set_option maxRecDepth 100000 in
theorem lifted (os : Os) (started : os.Started) (H : Type) (enc : TypeId × Value → H) :
    ReturnsInHanded {} Try.checked os 7 .any (Rows.fnExactSketchMoveSpec.pre6 enc Try.prog Try.f7 Rows.fnExactSketchMoveRow.domain false) (Rows.fnExactSketchMoveSpec.post enc Try.prog Try.f7 false true false false) := by
  refine returnsInHanded_of_change_sized (C := Try.checked) own started (by kernel_rfl) Try.func7
    (ChangeSpec.witness6 (enc := enc) (C := Try.checked) false ⟨#[], #[.agg #[.int .i64 0, .slice none 0 0], .int .i64 0, .agg #[.int .i64 0, .int .i64 0]], []⟩ 8 (by kernel_rfl) (by kernel_rfl) (by kernel_rfl) (by kernel_rfl)) ?_
  intro W base args ds gs before hval0 hW hcnd hsz0 _
  have hval : ∀ (j : Nat) t v, Try.f7.params[j]? = some t → args[j]? = some v → Value.okWide Try.prog W .any base t v := hval0
  have hW' := hW
  obtain ⟨p, q, hA0, hV, rfl, hfz, hnd⟩ := hW
  have hA : DataW.TrodAll enc Try.prog W 0 (fun _ => true) true Try.f7.params.toList args.toList ds p := hA0
  rw [Try.params7] at hA hval
  obtain ⟨v0, vs0, d0, ds0, p0, q0, hargs, rfl, rfl, h0, r0⟩ := trodAll_cons hA
  obtain ⟨v1, vs1, d1, ds1, p1, q1, rfl, rfl, rfl, h1, r1⟩ := trodAll_cons r0
  obtain ⟨v2, vs2, d2, ds2, p2, q2, rfl, rfl, rfl, h2, r2⟩ := trodAll_cons r1
  obtain ⟨rfl, rfl, rfl⟩ := trodAll_nil r2
  obtain rfl : args = #[v0, v1, v2] := by cases args; simp_all
  obtain ⟨rfl, rfl⟩ := trodVars_none hV
  have k0 := h0
  have lt0 : ∀ x ∈ p0, x.block < W.heap.size := by obtain ⟨m, hm⟩ := k0; exact DataW.trod_lt m _ _ _ hm
  obtain ⟨cs0, rfl, hcs0⟩ := agg_cells Try.underlying39 (hval 0 39 v0 rfl rfl)
  obtain ⟨fu0, hf0⟩ := h0
  rw [hcs0] at hf0
  obtain ⟨x0, hk0, hw0⟩ := op39.out hf0
  obtain ⟨x0_0, x0_1⟩ := x0
  obtain ⟨ca0_0, cb0_0, ec0_0, kk0_0, hk0_1⟩ := hk0
  have ek0_0 : _ = [Value.int .i64 x0_0] := kk0_0
  obtain ⟨A0_1, c0_1, ek0_1, hl0_1, hC0_1⟩ := hk0_1
  have hz0 : cs0.toList = [.int .i64 x0_0, .slice A0_1 x0_1.length c0_1] := by rw [ec0_0, ek0_0, ek0_1]; rfl
  obtain rfl : cs0 = #[.int .i64 x0_0, .slice A0_1 x0_1.length c0_1] := by apply Array.ext'; exact hz0
  have k1 := h1
  have lt1 : ∀ x ∈ p1, x.block < W.heap.size := by obtain ⟨m, hm⟩ := k1; exact DataW.trod_lt m _ _ _ hm
  obtain ⟨a1, rfl⟩ := okWide_int Try.underlying3 (hval 1 3 v1 rfl rfl)
  obtain ⟨fu1, hf1⟩ := h1
  obtain ⟨x1, hk1, hw1⟩ := op3.out hf1
  obtain rfl : a1 = x1 := by have z : [_] = [_] := hk1; simpa [Value.cells] using z
  have k2 := h2
  have lt2 : ∀ x ∈ p2, x.block < W.heap.size := by obtain ⟨m, hm⟩ := k2; exact DataW.trod_lt m _ _ _ hm
  obtain ⟨cs2, rfl, hcs2⟩ := agg_cells Try.underlying53 (hval 2 53 v2 rfl rfl)
  obtain ⟨fu2, hf2⟩ := h2
  rw [hcs2] at hf2
  obtain ⟨x2, hk2, hw2⟩ := op53.out hf2
  obtain ⟨x2_0, x2_1⟩ := x2
  obtain ⟨ca2_0, cb2_0, ec2_0, kk2_0, hk2_1⟩ := hk2
  have ek2_0 : _ = [Value.int .i64 x2_0] := kk2_0
  have ek2_1 : _ = [Value.int .i64 x2_1] := hk2_1
  have hz2 : cs2.toList = [.int .i64 x2_0, .int .i64 x2_1] := by rw [ec2_0, ek2_0, ek2_1]; rfl
  obtain rfl : cs2 = #[.int .i64 x2_0, .int .i64 x2_1] := by apply Array.ext'; exact hz2
  clear hA0 hval0 hsz0
  obtain ⟨kk, hk⟩ := Pure.FnExactSketchMove x0_0 x0_1 a1 x2_0 x2_1 (hw0.1) (hw0.2) (hw1) (hw2.1) (hw2.2)
  refine (Go.Proofs.Ytnbkdfnlggmopaa.PFnExactSketchMove.laws_FnExactSketchMove.calls kk x0_0 A0_1 c0_1 x0_1 a1 x2_0 x2_1 true W hC0_1 hl0_1 hk).mono fun e W' ⟨he, bel⟩ => ?_
  subst he
  exact ⟨_, rfl, _, _, _, [], _, [], hW', trodAll_mk1 (shut_bool Try.underlying4 _), (trodAll_cons_mk (Below.trod laidOut (by kernel_rfl) (of_decide_eq_true (by kernel_rfl)) k0 bel lt0) (trodAll_cons_mk (Below.trod laidOut (by kernel_rfl) (of_decide_eq_true (by kernel_rfl)) k1 bel lt1) (trodAll_cons_mk (Below.trod laidOut (by kernel_rfl) (of_decide_eq_true (by kernel_rfl)) k2 bel lt2) trodAll_mk0))), rfl, bel.frame _, fun h => by cases h⟩
theorem over : Rows.fnExactSketchMoveRow.holds Try.pinned (OpenSpec.ofChange Rows.fnExactSketchMoveSpec) :=
  OpenClaim.holds_of_wide 7 Try.f7 rfl rfl rfl rfl rfl rfl rfl ⟨rfl, rfl, rfl, rfl, rfl⟩ rfl rfl rfl rfl rfl (by kernel_rfl) Try.func7 (by kernel_rfl)
    (of_decide_eq_true (by kernel_rfl)) (by unfold Func.isWrapper; first | (rw [if_pos (by decide +kernel)]; kernel_rfl) | (rw [if_neg (by decide +kernel)]; exact ⟨rfl, rfl⟩))
    (fun os started H enc _ => lifted os started H enc)
theorem proved : Rows.FnExactSketchMoveSaid := over
#print axioms proved
end Go.Proofs.Ytnbkdfnlggmopaa.fnExactSketchMove
namespace Go.Proofs.Ytnbkdfnlggmopaa
/-- The row, under a short name, for the claim. -/
theorem fnExactSketchMove_holds : Rows.FnExactSketchMoveSaid := fnExactSketchMove.proved
end Go.Proofs.Ytnbkdfnlggmopaa
