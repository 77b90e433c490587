/- The law FnExactFracText holds: for every input the call returns true, and each argument reads behind it as it read before; the listed tables are tied to the program's text. -/
import Derived.Test.YthofhmhcackepaaDoorRows
import Derived.Test.YthofhmhcackepaaDoorPFnExactFracTextx2
import Derived.Test.YthofhmhcackepaaDoorTie
import Derived.Test.YthofhmhcackepaaDoorCards
import Derived.Test.YthofhmhcackepaaDoorPureFnExactFracText
import Derived.Test.YthofhmhcackepaaDoorOpen
import Derived.WalkKit
import Derived.ProofKit
import Derived.LaidMore
import Derived.OpenShut
import Derived.ShutString
import Derived.Stop.Joined
import Derived.ChangeOld
import Derived.Below
import Derived.SizedLaws
import Derived.SevenTiedAt
import Derived.Lib.LaidU8
namespace Go.Proofs.YthofhmhcackepaaDoor.fnExactFracText
open Go Go.ChangeShapes Go.WideShapes Go.ChangeAt Go.RowKit Go.Proofs.YthofhmhcackepaaDoor.Opens Go.Proofs.YthofhmhcackepaaDoorW.PrintWords Go.Proofs.YthofhmhcackepaaDoor.PFnExactFracText
set_option linter.unusedVariables false
theorem own : ownKnob Tryd.prog.godebug = none := by kernel_rfl
theorem laidOut : laidOutB Tryd.prog = true := by kernel_rfl
def theLaid : List (String × DataW Unit) := [("math/bits.deBruijn32tab", Rows.laid_math_bits_deBruijn32tab), ("math/bits.deBruijn64tab", Rows.laid_math_bits_deBruijn64tab), ("internal/strconv.uint64pow10", Rows.laid_internal_strconv_uint64pow10)]
open Go.Lib in
theorem of_laid {W : World} (h : laidMetH Tryd.prog theLaid W) : LaidT W := by
  rw [MakeChecks.laidMetH_plain _ _ _ (by kernel_rfl)] at h
  obtain ⟨ps, hl, _, _⟩ := h
  have hr : VarReads Tryd.prog W "internal/strconv.uint64pow10" Rows.laid_internal_strconv_uint64pow10 := LaidVars_reads hl _ _ (by simp [theLaid])
  obtain ⟨g, t, cs, fuel, p, hg, ht, hv, hd⟩ := hr
  have hg' : Tryd.prog.globalNamed "internal/strconv.uint64pow10" = some 0 := by kernel_rfl
  have ht' : (Tryd.prog.globals[0]?).map (·.type) = some 42 := by kernel_rfl
  obtain rfl := Option.some.inj (hg'.symm.trans hg)
  obtain rfl := Option.some.inj (ht'.symm.trans ht)
  have hc := cells_of_tab (k := .u64) (zs := Lib.pow10Tab) Tryd.underlying42 Tryd.underlying36 (by kernel_rfl) (by kernel_rfl) hd
  show W.var? Tryd.prog "internal/strconv.uint64pow10" = _
  rw [hv, ← hc]

/-- The door's own heap meets the condition. -/
theorem door_met (os : Os) (args : Array Value) : laidMetH Tryd.prog theLaid ((World.doorLaid Tryd.prog 4000 os).forCall (fun _ _ => 0) ⟨#[], args, []⟩).memory :=
  laidMetH_of_parts3 (fuel := 8) (laidMet_of_run' 8 (by kernel_rfl) (by kernel_rfl)) (by kernel_rfl) (by kernel_rfl)
theorem op3 : Opens Tryd.prog 3 (Kd.int .i64) (fun x => (Lit.int .i64 x).wf = true) := Opens.int Tryd.underlying3 (by kernel_rfl)
theorem op23 : Opens Tryd.prog 23 (Kd.pair (Kd.int .i64) (Kd.int .i64)) (fun x => ((Lit.int .i64 x.1).wf = true) ∧ ((Lit.int .i64 x.2).wf = true)) := Opens.struct Tryd.underlying23 (by kernel_rfl) (OpensF.cons (wf := fun (x : Int) => (Lit.int .i64 x).wf = true) (wf' := fun (x : Int) => (Lit.int .i64 x).wf = true) rfl op3 (OpensF.one rfl op3))
set_option maxRecDepth 100000 in
theorem lifted (os : Os) (started : os.Started) (H : Type) (enc : TypeId × Value → H) :
    ReturnsInHanded {} Tryd.checked os 3 .any (fun w args => (Rows.fnExactFracTextSpec.pre enc Tryd.prog Tryd.f3 [] false w args ∧ laidMetH Tryd.prog theLaid w) ∧ sizedMet enc Tryd.prog Tryd.f3 (OpenSpec.ofChange Rows.fnExactFracTextSpec) false w args) (Rows.fnExactFracTextSpec.post enc Tryd.prog Tryd.f3 false true false false) := by
  refine returnsInHanded_of_change_and (C := Tryd.checked) (X := fun w _ => laidMetH Tryd.prog theLaid w) (fun _ _ _ hh h => h.of_heap hh) own started (by kernel_rfl) Tryd.func3
    (ChangeSpec.witness_shaped (enc := enc) (C := Tryd.checked) (os := os) (X := fun w _ => laidMetH Tryd.prog theLaid w) false (World.doorLaid Tryd.prog 4000 os) #[.agg #[.int .i64 0, .int .i64 0]] 8 rfl (World.shaped_of_RefB (by kernel_rfl) (by kernel_rfl)) (by kernel_rfl) (by kernel_rfl) (by kernel_rfl) (door_met os _)) ?_
  intro W base args ds gs before hval0 hW _ _ hL _
  have hval : ∀ (j : Nat) t v, Tryd.f3.params[j]? = some t → args[j]? = some v → Value.okWide Tryd.prog W .any base t v := hval0
  have hW' := hW
  obtain ⟨p, q, hA0, hV, rfl, hfz, hnd⟩ := hW
  have hA : DataW.TrodAll enc Tryd.prog W 0 (fun _ => true) true Tryd.f3.params.toList args.toList ds p := hA0
  rw [Tryd.params3] at hA hval
  obtain ⟨v0, vs0, d0, ds0, p0, q0, hargs, rfl, rfl, h0, r0⟩ := trodAll_cons hA
  obtain ⟨rfl, rfl, rfl⟩ := trodAll_nil r0
  obtain rfl : args = #[v0] := by cases args; simp_all
  obtain ⟨rfl, rfl⟩ := trodVars_none hV
  have k0 := h0
  have lt0 : ∀ x ∈ p0, x.block < W.heap.size := by obtain ⟨m, hm⟩ := k0; exact DataW.trod_lt m _ _ _ hm
  obtain ⟨cs0, rfl, hcs0⟩ := agg_cells Tryd.underlying23 (hval 0 23 v0 rfl rfl)
  obtain ⟨fu0, hf0⟩ := h0
  rw [hcs0] at hf0
  obtain ⟨x0, hk0, hw0⟩ := op23.out hf0
  obtain ⟨x0_0, x0_1⟩ := x0
  obtain ⟨ca0_0, cb0_0, ec0_0, kk0_0, hk0_1⟩ := hk0
  have ek0_0 : _ = [Value.int .i64 x0_0] := kk0_0
  have ek0_1 : _ = [Value.int .i64 x0_1] := hk0_1
  have hz0 : cs0.toList = [.int .i64 x0_0, .int .i64 x0_1] := by rw [ec0_0, ek0_0, ek0_1]; rfl
  obtain rfl : cs0 = #[.int .i64 x0_0, .int .i64 x0_1] := by apply Array.ext'; exact hz0
  clear hA0 hval0
  have hT := of_laid hL
  obtain ⟨kk, hk⟩ := Pure.FnExactFracText x0_0 x0_1 (hw0.1) (hw0.2)
  refine (Go.Proofs.YthofhmhcackepaaDoor.PFnExactFracText.laws_FnExactFracText.calls kk x0_0 x0_1 true W hk hT).mono fun e W' ⟨he, bel⟩ => ?_
  subst he
  exact ⟨_, rfl, _, _, _, [], _, [], hW', trodAll_mk1 (shut_bool Tryd.underlying4 _), (trodAll_cons_mk (Below.trod laidOut (by kernel_rfl) (of_decide_eq_true (by kernel_rfl)) k0 bel lt0) trodAll_mk0), rfl, bel.frame _, fun h => by cases h⟩
theorem over : Rows.fnExactFracTextRow.holds Tryd.pinned (OpenSpec.ofChange Rows.fnExactFracTextSpec) :=
  OpenClaim.holds_of_wide 3 Tryd.f3 rfl rfl rfl rfl rfl rfl rfl ⟨rfl, rfl, rfl, rfl, rfl⟩ rfl rfl rfl rfl rfl (by kernel_rfl) Tryd.func3 (by kernel_rfl)
    (of_decide_eq_true (by kernel_rfl)) (by unfold Func.isWrapper; first | (rw [if_pos (by decide +kernel)]; kernel_rfl) | (rw [if_neg (by decide +kernel)]; exact ⟨rfl, rfl⟩))
    (fun os started H enc _ => lifted os started H enc)
theorem card : Rows.FnExactFracTextCardSaid :=
  Claim7.holds_tied_plain_at .later [] [.data, .data, .data] true (true, "3321e45fc39e2557a0b9a83988147fe4829c5b82641c7b465f49815112145820") false
    over (fun _ h => by cases h) (by kernel_rfl) (fun _ h => by cases h) fnExactFracText_row_tie rfl ⟨rfl, rfl⟩ (by kernel_rfl) rfl
    (fun f fn hf hfn => by
      obtain rfl : f = 3 := Option.some.inj ((show Tryd.prog.funcNamed "loop.example/g00056/laws.FnExactFracText" = some 3 by kernel_rfl).symm.trans hf) |>.symm
      obtain rfl : fn = Tryd.f3 := (Option.some.inj (Tryd.func3.symm.trans hfn)).symm
      exact ⟨by kernel_rfl, fun j t ht => by
        rw [Tryd.params3] at ht
        have hm : t ∈ [23] := by simpa using Array.mem_of_getElem? ht
        have hall : ([23].all fun u => !Tryd.prog.wantsStandIn u) = true := by kernel_rfl
        exact (show Tryd.prog.wantsStandIn t = false by simpa using List.all_eq_true.1 hall t hm)⟩)
    (by kernel_rfl)
#print axioms card
end Go.Proofs.YthofhmhcackepaaDoor.fnExactFracText
namespace Go.Proofs.YthofhmhcackepaaDoor
/-- The card, under a short name, for the claim. -/
theorem fnExactFracText_holds : Rows.FnExactFracTextCardSaid := fnExactFracText.card
end Go.Proofs.YthofhmhcackepaaDoor
