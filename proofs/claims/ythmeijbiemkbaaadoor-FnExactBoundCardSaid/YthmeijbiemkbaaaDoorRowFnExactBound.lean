/- The law FnExactBound holds: for every input the call returns true, and each argument reads behind it as it read before; the listed tables are tied to the program's text. -/
import Derived.Test.YthmeijbiemkbaaaDoorRows
import Derived.Test.YthmeijbiemkbaaaDoorPFnExactBoundx11
import Derived.Test.YthmeijbiemkbaaaDoorTie
import Derived.Test.YthmeijbiemkbaaaDoorCards
import Derived.Test.YthmeijbiemkbaaaDoorPureFnExactBound
import Derived.Test.YthmeijbiemkbaaaDoorOpen
import Derived.WalkKit
import Derived.ProofKit
import Derived.Lay
import Derived.OpenShut
import Derived.ShutString
import Derived.Stop.Joined
import Derived.ChangeOld
import Derived.Below
import Derived.SizedLaws
import Derived.SevenTiedAt
import Derived.Lib.LaidU8
import Derived.Test.YthmeijbiemkbaaaDoorShelf
namespace Go.Proofs.YthmeijbiemkbaaaDoor.fnExactBound
open Go Go.ChangeShapes Go.WideShapes Go.ChangeAt Go.RowKit Go.Proofs.YthmeijbiemkbaaaDoor.Opens Go.Proofs.YthmeijbiemkbaaaDoorW.PrintWords Go.Proofs.YthmeijbiemkbaaaDoor.PFnExactBound
set_option linter.unusedVariables false
theorem own : ownKnob Tryd.prog.godebug = none := by kernel_rfl
theorem laidOut : laidOutB Tryd.prog = true := by kernel_rfl
def theLaid : List (String × DataW Unit) := [("unicode/utf8.acceptRanges", Rows.laid_unicode_utf8_acceptRanges), ("unicode/utf8.first", Rows.laid_unicode_utf8_first)]
open Go.Lib Go.Proofs in
theorem of_laid {W : World} (h : laidMetH Tryd.prog theLaid W) : LaidT W := by
  rw [MakeChecks.laidMetH_plain _ _ _ (by kernel_rfl)] at h
  obtain ⟨ps, hl, _, _⟩ := h
  have r1 : VarReads Tryd.prog W "unicode/utf8.first" Rows.laid_unicode_utf8_first := LaidVars_reads hl _ _ (by simp [theLaid])
  have r2 : VarReads Tryd.prog W "unicode/utf8.acceptRanges" Rows.laid_unicode_utf8_acceptRanges := LaidVars_reads hl _ _ (by simp [theLaid])
  have e1 : (Rows.laid_unicode_utf8_first : DataW Unit) = firstData := by kernel_rfl
  have e2 : (Rows.laid_unicode_utf8_acceptRanges : DataW Unit) = acceptData := by kernel_rfl
  rw [e1] at r1
  rw [e2] at r2
  exact utf8Tabs_of_reads Tryd.lays260 { n3 := by kernel_rfl, n4 := by kernel_rfl, y3 := by kernel_rfl, y4 := by kernel_rfl, c5 := by kernel_rfl, c119 := by kernel_rfl, c138 := by kernel_rfl } r1 r2

theorem op3 : Opens Tryd.prog 3 (Kd.int .i64) (fun x => (Lit.int .i64 x).wf = true) := Opens.int Tryd.underlying3 (by kernel_rfl)
theorem op34 : Opens Tryd.prog 34 (Kd.pair (Kd.int .i64) (Kd.pair (Kd.int .i64) (Kd.int .i64))) (fun x => ((Lit.int .i64 x.1).wf = true) ∧ ((Lit.int .i64 x.2.1).wf = true) ∧ ((Lit.int .i64 x.2.2).wf = true)) := Opens.struct Tryd.underlying34 (by kernel_rfl) (OpensF.cons (wf := fun (x : Int) => (Lit.int .i64 x).wf = true) (wf' := fun (x : (Int) × Int) => ((Lit.int .i64 x.1).wf = true) ∧ ((Lit.int .i64 x.2).wf = true)) rfl op3 (OpensF.cons (wf := fun (x : Int) => (Lit.int .i64 x).wf = true) (wf' := fun (x : Int) => (Lit.int .i64 x).wf = true) rfl op3 (OpensF.one rfl op3)))
theorem op9 : Opens Tryd.prog 9 Kd.string (fun s => s.size ≤ maxLen) := Opens.string Tryd.underlying9 (by kernel_rfl)
theorem op87 : Opens Tryd.prog 87 k87 (fun x => ((Lit.int .i64 x.f0).wf = true) ∧ ((Lit.int .i64 x.f1).wf = true) ∧ ((Lit.int .i64 x.f2).wf = true) ∧ ((Lit.int .i64 x.f3).wf = true)) := Opens.iso (d := (Kd.pair (Kd.int .i64) (Kd.pair (Kd.int .i64) (Kd.pair (Kd.int .i64) (Kd.int .i64))))) (fun x : S87 => (x.f0, x.f1, x.f2, x.f3)) (fun p => ⟨p.1, p.2.1, p.2.2.1, p.2.2.2⟩) (fun _ => rfl) (Opens.struct Tryd.underlying87 (by kernel_rfl) (OpensF.cons (wf := fun (x : Int) => (Lit.int .i64 x).wf = true) (wf' := fun (x : (Int) × (Int) × Int) => ((Lit.int .i64 x.1).wf = true) ∧ (((Lit.int .i64 x.2.1).wf = true) ∧ ((Lit.int .i64 x.2.2).wf = true))) rfl op3 (OpensF.cons (wf := fun (x : Int) => (Lit.int .i64 x).wf = true) (wf' := fun (x : (Int) × Int) => ((Lit.int .i64 x.1).wf = true) ∧ ((Lit.int .i64 x.2).wf = true)) rfl op3 (OpensF.cons (wf := fun (x : Int) => (Lit.int .i64 x).wf = true) (wf' := fun (x : Int) => (Lit.int .i64 x).wf = true) rfl op3 (OpensF.one rfl op3)))))
theorem op62 : Opens Tryd.prog 62 (Kd.slice 87 k87) (fun x => x.length ≤ maxLen ∧ ∀ y62 ∈ x, ((Lit.int .i64 y62.f0).wf = true) ∧ ((Lit.int .i64 y62.f1).wf = true) ∧ ((Lit.int .i64 y62.f2).wf = true) ∧ ((Lit.int .i64 y62.f3).wf = true)) := Opens.slice z87 Tryd.underlying62 (by kernel_rfl) op87
theorem op64 : Opens Tryd.prog 64 k64 (fun x => (x.f0.size ≤ maxLen) ∧ ((Lit.int .i64 x.f1).wf = true) ∧ (x.f2.length ≤ maxLen ∧ ∀ y62 ∈ x.f2, ((Lit.int .i64 y62.f0).wf = true) ∧ ((Lit.int .i64 y62.f1).wf = true) ∧ ((Lit.int .i64 y62.f2).wf = true) ∧ ((Lit.int .i64 y62.f3).wf = true))) := Opens.iso (d := (Kd.pair Kd.string (Kd.pair (Kd.int .i64) (Kd.slice 87 k87)))) (fun x : S64 => (x.f0, x.f1, x.f2)) (fun p => ⟨p.1, p.2.1, p.2.2⟩) (fun _ => rfl) (Opens.struct Tryd.underlying64 (by kernel_rfl) (OpensF.cons (wf := fun (x : ByteArray) => x.size ≤ maxLen) (wf' := fun (x : (Int) × List S87) => ((Lit.int .i64 x.1).wf = true) ∧ (x.2.length ≤ maxLen ∧ ∀ y62 ∈ x.2, ((Lit.int .i64 y62.f0).wf = true) ∧ ((Lit.int .i64 y62.f1).wf = true) ∧ ((Lit.int .i64 y62.f2).wf = true) ∧ ((Lit.int .i64 y62.f3).wf = true))) rfl op9 (OpensF.cons (wf := fun (x : Int) => (Lit.int .i64 x).wf = true) (wf' := fun (x : List S87) => x.length ≤ maxLen ∧ ∀ y62 ∈ x, ((Lit.int .i64 y62.f0).wf = true) ∧ ((Lit.int .i64 y62.f1).wf = true) ∧ ((Lit.int .i64 y62.f2).wf = true) ∧ ((Lit.int .i64 y62.f3).wf = true)) rfl op3 (OpensF.one rfl op62))))
theorem op35 : Opens Tryd.prog 35 (Kd.slice 64 k64) (fun x => x.length ≤ maxLen ∧ ∀ y35 ∈ x, (y35.f0.size ≤ maxLen) ∧ ((Lit.int .i64 y35.f1).wf = true) ∧ (y35.f2.length ≤ maxLen ∧ ∀ y62 ∈ y35.f2, ((Lit.int .i64 y62.f0).wf = true) ∧ ((Lit.int .i64 y62.f1).wf = true) ∧ ((Lit.int .i64 y62.f2).wf = true) ∧ ((Lit.int .i64 y62.f3).wf = true))) := Opens.slice z64 Tryd.underlying35 (by kernel_rfl) op64
set_option maxRecDepth 100000 in
theorem lifted (os : Os) (started : os.Started) (H : Type) (enc : TypeId × Value → H) :
    ReturnsInHanded {} Tryd.checked os 5 .any (fun w args => (Rows.fnExactBoundSpec.pre enc Tryd.prog Tryd.f5 [] false w args ∧ laidMetH Tryd.prog theLaid w) ∧ sizedMet enc Tryd.prog Tryd.f5 (OpenSpec.ofChange Rows.fnExactBoundSpec) false w args) (Rows.fnExactBoundSpec.post enc Tryd.prog Tryd.f5 false true false false) := by
  refine returnsInHanded_of_change_and (C := Tryd.checked) (X := fun w _ => laidMetH Tryd.prog theLaid w) (fun _ _ _ hh h => h.of_heap hh) own started (by kernel_rfl) Tryd.func5
    (ChangeSpec.witness_shaped (enc := enc) (C := Tryd.checked) (os := os) (X := fun w _ => laidMetH Tryd.prog theLaid w) false (World.laidAll Tryd.prog os theLaid) #[.agg #[.int .i64 0, .int .i64 0, .int .i64 0], .slice none 0 0] 8 (World.laidAll_os _ _ _) (World.shaped_of_ZipB (by kernel_rfl) (by kernel_rfl)) (by kernel_rfl) (by kernel_rfl) (by kernel_rfl)
      (by rw [MakeChecks.laidMetH_plain _ _ _ (by kernel_rfl)]; exact laidMet_laidAll _ (by kernel_rfl) (by kernel_rfl))) ?_
  intro W base args ds gs before hval0 hW _ _ hL _
  have hval : ∀ (j : Nat) t v, Tryd.f5.params[j]? = some t → args[j]? = some v → Value.okWide Tryd.prog W .any base t v := hval0
  have hW' := hW
  obtain ⟨p, q, hA0, hV, rfl, hfz, hnd⟩ := hW
  have hA : DataW.TrodAll enc Tryd.prog W 0 (fun _ => true) true Tryd.f5.params.toList args.toList ds p := hA0
  rw [Tryd.params5] at hA hval
  obtain ⟨v0, vs0, d0, ds0, p0, q0, hargs, rfl, rfl, h0, r0⟩ := trodAll_cons hA
  obtain ⟨v1, vs1, d1, ds1, p1, q1, rfl, rfl, rfl, h1, r1⟩ := trodAll_cons r0
  obtain ⟨rfl, rfl, rfl⟩ := trodAll_nil r1
  obtain rfl : args = #[v0, v1] := by cases args; simp_all
  obtain ⟨rfl, rfl⟩ := trodVars_none hV
  have k0 := h0
  have lt0 : ∀ x ∈ p0, x.block < W.heap.size := by obtain ⟨m, hm⟩ := k0; exact DataW.trod_lt m _ _ _ hm
  obtain ⟨cs0, rfl, hcs0⟩ := agg_cells Tryd.underlying34 (hval 0 34 v0 rfl rfl)
  obtain ⟨fu0, hf0⟩ := h0
  rw [hcs0] at hf0
  obtain ⟨x0, hk0, hw0⟩ := op34.out hf0
  obtain ⟨x0_0, x0_1, x0_2⟩ := x0
  obtain ⟨ca0_0, cb0_0, ec0_0, kk0_0, hk0_1⟩ := hk0
  have ek0_0 : _ = [Value.int .i64 x0_0] := kk0_0
  obtain ⟨ca0_1, cb0_1, ec0_1, kk0_1, hk0_2⟩ := hk0_1
  have ek0_1 : _ = [Value.int .i64 x0_1] := kk0_1
  have ek0_2 : _ = [Value.int .i64 x0_2] := hk0_2
  have hz0 : cs0.toList = [.int .i64 x0_0, .int .i64 x0_1, .int .i64 x0_2] := by rw [ec0_0, ek0_0, ec0_1, ek0_1, ek0_2]; rfl
  obtain rfl : cs0 = #[.int .i64 x0_0, .int .i64 x0_1, .int .i64 x0_2] := by apply Array.ext'; exact hz0
  have k1 := h1
  have lt1 : ∀ x ∈ p1, x.block < W.heap.size := by obtain ⟨m, hm⟩ := k1; exact DataW.trod_lt m _ _ _ hm
  obtain ⟨aa1, len1, cap1, rfl⟩ := okWide_slice Tryd.underlying35 (hval 1 35 v1 rfl rfl)
  obtain ⟨fu1, hf1⟩ := h1
  obtain ⟨x1, hk1, hw1⟩ := op35.out hf1
  obtain ⟨A1, c1, ek1, hl1, hC1⟩ := hk1
  simp only [Value.cells, List.cons.injEq, Value.slice.injEq, and_true] at ek1
  obtain ⟨rfl, rfl, rfl⟩ := ek1
  clear hA0 hval0
  have hT := of_laid hL
  obtain ⟨kk, hk⟩ := Pure.FnExactBound x0_0 x0_1 x0_2 x1 (hw0.1) (hw0.2.1) (hw0.2.2) (hw1)
  refine (Go.Proofs.YthmeijbiemkbaaaDoor.PFnExactBound.laws_FnExactBound.calls kk x0_0 x0_1 x0_2 _ _ x1 true W hC1 hl1 hk hT).mono fun e W' ⟨he, bel⟩ => ?_
  subst he
  exact ⟨_, rfl, _, _, _, [], _, [], hW', trodAll_mk1 (shut_bool Tryd.underlying4 _), (trodAll_cons_mk (Below.trod laidOut (by kernel_rfl) (of_decide_eq_true (by kernel_rfl)) k0 bel lt0) (trodAll_cons_mk (Below.trod laidOut (by kernel_rfl) (of_decide_eq_true (by kernel_rfl)) k1 bel lt1) trodAll_mk0)), rfl, bel.frame _, fun h => by cases h⟩
theorem over : Rows.fnExactBoundRow.holds Tryd.pinned (OpenSpec.ofChange Rows.fnExactBoundSpec) :=
  OpenClaim.holds_of_wide 5 Tryd.f5 rfl rfl rfl rfl rfl rfl rfl ⟨rfl, rfl, rfl, rfl, rfl⟩ rfl rfl rfl rfl rfl (by kernel_rfl) Tryd.func5 (by kernel_rfl)
    (of_decide_eq_true (by kernel_rfl)) (by unfold Func.isWrapper; first | (rw [if_pos (by decide +kernel)]; kernel_rfl) | (rw [if_neg (by decide +kernel)]; exact ⟨rfl, rfl⟩))
    (fun os started H enc _ => lifted os started H enc)
theorem card : Rows.FnExactBoundCardSaid :=
  Claim7.holds_tied_plain_at .later [] [.data, .pinned] true (true, "e4fcf720e98eddd4046a34c6b04740cefb66adfc0fd7e53cad9da6c6e5660fd4") false
    over (fun _ h => by cases h) (by kernel_rfl) (fun _ h => by cases h) fnExactBound_row_tie rfl ⟨rfl, rfl⟩ (by kernel_rfl) rfl
    (fun f fn hf hfn => by
      obtain rfl : f = 5 := Option.some.inj ((show Tryd.prog.funcNamed "loop.example/g00056/laws.FnExactBound" = some 5 by kernel_rfl).symm.trans hf) |>.symm
      obtain rfl : fn = Tryd.f5 := (Option.some.inj (Tryd.func5.symm.trans hfn)).symm
      exact ⟨by kernel_rfl, fun j t ht => by
        rw [Tryd.params5] at ht
        have hm : t ∈ [34, 35] := by simpa using Array.mem_of_getElem? ht
        have hall : ([34, 35].all fun u => !Tryd.prog.wantsStandIn u) = true := by kernel_rfl
        exact (show Tryd.prog.wantsStandIn t = false by simpa using List.all_eq_true.1 hall t hm)⟩)
    (by kernel_rfl)
#print axioms card
end Go.Proofs.YthmeijbiemkbaaaDoor.fnExactBound
namespace Go.Proofs.YthmeijbiemkbaaaDoor
/-- The card, under a short name, for the claim. -/
theorem fnExactBound_holds : Rows.FnExactBoundCardSaid := fnExactBound.card
end Go.Proofs.YthmeijbiemkbaaaDoor
