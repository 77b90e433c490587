/-
  No cell of these rows narrows 'for every input' (looked for: loops, veiled, ifaces, maps, wideKeys, modest, calm, conditions, laid).
  DERIVED. THE GIVEN ROWS OF THIS SEAT. 6 by the template 'for every input the law returns true; each argument reads behind the call as it read before'; 0 by the template 'total and deterministic' (their statements: YtlmlhkmkabklmaaTotals.lean).
  GIVEN WITH THE SEED: the statements are not yours to turn. If you find one false, say at which input.
  Laid BY PROGRAM, IN A SANDBOX (cutbox-rows.mjs): the forced cells as the released guide's own fill.sh prints them over the translation ab2bb4f17a6a49d7… (all of the seat's roots in one cut). By AI agents, Wed Nov 11 2026. No macro, syntax, notation, axiom, sorry.
-/
import Derived.Test.YtlmlhkmkabklmaaChecked
import GoSem.Claim
import GoSem.ClaimJoined
import GoSem.ClaimMapViews
import Derived.JoinedTies
import Derived.KernelRfl
namespace Go.Proofs.Ytlmlhkmkabklmaa
/- THE CELL 'sum', in the pinned program and in every row, IS THE sha256 OF THE DUMP (.gsa) THAT YtlmlhkmkabklmaaProg.lean LOADS. Nothing in Lean hashes anything: it is a label: what it is worth is what the hold of that sum in a sandbox is worth. -/
noncomputable def Try.pinned : Pinned := { name := "ytlmlhkmkabklmaa", sum := "ab2bb4f17a6a49d7e6f9ab418fd0b3dcf95ae77118757ca688e3b0dab5abebbd", checked := Try.checked }
namespace Rows
def none {H : Type} : Left H := { results := [], args := [] }

/-- 'laws.FnExactCalm': WHATEVER THE INPUT: true; the input reads as it did. -/
def fnExactCalmSpec : ChangeSpec := { name := "fnExactCalm", fn := fun _ => fun
  | [d1, d2] => { results := [.lit (.bool true)], args := [d1, d2] }
  | _ => none }
def fnExactCalmRow : OpenClaim := { program := "ytlmlhkmkabklmaa", sum := "ab2bb4f17a6a49d7e6f9ab418fd0b3dcf95ae77118757ca688e3b0dab5abebbd", func := "loop.example/g00056/laws.FnExactCalm", spec := "fnExactCalm", apart := false }
def FnExactCalmSaid : Prop := fnExactCalmRow.holds Try.pinned (OpenSpec.ofChange fnExactCalmSpec)

/-- ITS FALSE NEIGHBOUR: 'it returns false'. Refute it at one input. -/
def fnExactCalmWrong : ChangeSpec := { name := "fnExactCalm", fn := fun _ => fun
  | [d1, d2] => { results := [.lit (.bool false)], args := [d1, d2] }
  | _ => none }
def FnExactCalmWrongFalsely : Prop := fnExactCalmRow.holds Try.pinned (OpenSpec.ofChange fnExactCalmWrong)

/-- 'laws.FnSpectrum': WHATEVER THE INPUT: true; the input reads as it did. -/
def fnSpectrumSpec : ChangeSpec := { name := "fnSpectrum", fn := fun _ => fun
  | [d1, d2] => { results := [.lit (.bool true)], args := [d1, d2] }
  | _ => none }
def fnSpectrumRow : OpenClaim := { program := "ytlmlhkmkabklmaa", sum := "ab2bb4f17a6a49d7e6f9ab418fd0b3dcf95ae77118757ca688e3b0dab5abebbd", func := "loop.example/g00056/laws.FnSpectrum", spec := "fnSpectrum", apart := false }
def FnSpectrumSaid : Prop := fnSpectrumRow.holds Try.pinned (OpenSpec.ofChange fnSpectrumSpec)

/-- ITS FALSE NEIGHBOUR: 'it returns false'. Refute it at one input. -/
def fnSpectrumWrong : ChangeSpec := { name := "fnSpectrum", fn := fun _ => fun
  | [d1, d2] => { results := [.lit (.bool false)], args := [d1, d2] }
  | _ => none }
def FnSpectrumWrongFalsely : Prop := fnSpectrumRow.holds Try.pinned (OpenSpec.ofChange fnSpectrumWrong)

/-- 'laws.FnExactSpectrum': WHATEVER THE INPUT: true; the input reads as it did. -/
def fnExactSpectrumSpec : ChangeSpec := { name := "fnExactSpectrum", fn := fun _ => fun
  | [d] => { results := [.lit (.bool true)], args := [d] }
  | _ => none }
def fnExactSpectrumRow : OpenClaim := { program := "ytlmlhkmkabklmaa", sum := "ab2bb4f17a6a49d7e6f9ab418fd0b3dcf95ae77118757ca688e3b0dab5abebbd", func := "loop.example/g00056/laws.FnExactSpectrum", spec := "fnExactSpectrum", apart := false }
def FnExactSpectrumSaid : Prop := fnExactSpectrumRow.holds Try.pinned (OpenSpec.ofChange fnExactSpectrumSpec)

/-- ITS FALSE NEIGHBOUR: 'it returns false'. Refute it at one input. -/
def fnExactSpectrumWrong : ChangeSpec := { name := "fnExactSpectrum", fn := fun _ => fun
  | [d] => { results := [.lit (.bool false)], args := [d] }
  | _ => none }
def FnExactSpectrumWrongFalsely : Prop := fnExactSpectrumRow.holds Try.pinned (OpenSpec.ofChange fnExactSpectrumWrong)

/-- 'laws.FnExactSway': WHATEVER THE INPUT: true; the input reads as it did. -/
def fnExactSwaySpec : ChangeSpec := { name := "fnExactSway", fn := fun _ => fun
  | [d1, d2] => { results := [.lit (.bool true)], args := [d1, d2] }
  | _ => none }
def fnExactSwayRow : OpenClaim := { program := "ytlmlhkmkabklmaa", sum := "ab2bb4f17a6a49d7e6f9ab418fd0b3dcf95ae77118757ca688e3b0dab5abebbd", func := "loop.example/g00056/laws.FnExactSway", spec := "fnExactSway", apart := false }
def FnExactSwaySaid : Prop := fnExactSwayRow.holds Try.pinned (OpenSpec.ofChange fnExactSwaySpec)

/-- ITS FALSE NEIGHBOUR: 'it returns false'. Refute it at one input. -/
def fnExactSwayWrong : ChangeSpec := { name := "fnExactSway", fn := fun _ => fun
  | [d1, d2] => { results := [.lit (.bool false)], args := [d1, d2] }
  | _ => none }
def FnExactSwayWrongFalsely : Prop := fnExactSwayRow.holds Try.pinned (OpenSpec.ofChange fnExactSwayWrong)

/-- 'laws.FnExactLoudest': WHATEVER THE INPUT: true; the input reads as it did. -/
def fnExactLoudestSpec : ChangeSpec := { name := "fnExactLoudest", fn := fun _ => fun
  | [d1, d2] => { results := [.lit (.bool true)], args := [d1, d2] }
  | _ => none }
def fnExactLoudestRow : OpenClaim := { program := "ytlmlhkmkabklmaa", sum := "ab2bb4f17a6a49d7e6f9ab418fd0b3dcf95ae77118757ca688e3b0dab5abebbd", func := "loop.example/g00056/laws.FnExactLoudest", spec := "fnExactLoudest", apart := false }
def FnExactLoudestSaid : Prop := fnExactLoudestRow.holds Try.pinned (OpenSpec.ofChange fnExactLoudestSpec)

/-- ITS FALSE NEIGHBOUR: 'it returns false'. Refute it at one input. -/
def fnExactLoudestWrong : ChangeSpec := { name := "fnExactLoudest", fn := fun _ => fun
  | [d1, d2] => { results := [.lit (.bool false)], args := [d1, d2] }
  | _ => none }
def FnExactLoudestWrongFalsely : Prop := fnExactLoudestRow.holds Try.pinned (OpenSpec.ofChange fnExactLoudestWrong)

/-- 'laws.FnSway': WHATEVER THE INPUT: true; the input reads as it did. -/
def fnSwaySpec : ChangeSpec := { name := "fnSway", fn := fun _ => fun
  | [d1, d2] => { results := [.lit (.bool true)], args := [d1, d2] }
  | _ => none }
def fnSwayRow : OpenClaim := { program := "ytlmlhkmkabklmaa", sum := "ab2bb4f17a6a49d7e6f9ab418fd0b3dcf95ae77118757ca688e3b0dab5abebbd", func := "loop.example/g00056/laws.FnSway", spec := "fnSway", apart := false }
def FnSwaySaid : Prop := fnSwayRow.holds Try.pinned (OpenSpec.ofChange fnSwaySpec)

/-- ITS FALSE NEIGHBOUR: 'it returns false'. Refute it at one input. -/
def fnSwayWrong : ChangeSpec := { name := "fnSway", fn := fun _ => fun
  | [d1, d2] => { results := [.lit (.bool false)], args := [d1, d2] }
  | _ => none }
def FnSwayWrongFalsely : Prop := fnSwayRow.holds Try.pinned (OpenSpec.ofChange fnSwayWrong)

/- THE SECOND FORM. 'bulk': how many values and letters a reading holds, each counted each time it is reached (what is shared counts as often as it is met; a slice's spare places count too). A statement '..UptoSaid' is the law's where the arguments, and the package variables that the reading takes, are together of bulk at most 1048576: NARROWER than '..Said'. Prove '..Said' where nothing that the law and all that it calls make is longer than what came in: it says more and counts as full. Else prove '..UptoSaid'. A law counts once. -/
mutual
def uptoBulk {H : Type} : DataW H → Nat
  | .lit (.string bytes) => bytes.length + 1
  | .lit _ => 1
  | .nil => 1
  | .ptr d => uptoBulk d + 1
  | .slice elems spare => uptoBulkAll elems + uptoBulkAll spare + 1
  | .agg parts => uptoBulkAll parts + 1
  | .iface _ d => uptoBulk d + 1
  | .map entries => uptoBulkEntries entries + 1
  | .held _ => 1
def uptoBulkAll {H : Type} : List (DataW H) → Nat
  | [] => 0
  | d :: r => uptoBulk d + uptoBulkAll r
def uptoBulkEntries {H : Type} : List (Lit × DataW H) → Nat
  | [] => 0
  | x :: r => uptoBulkEntry x + uptoBulkEntries r
def uptoBulkEntry {H : Type} : Lit × DataW H → Nat
  | (.string bytes, d) => bytes.length + uptoBulk d + 1
  | (_, d) => uptoBulk d + 1
 end
def uptoSmall : (H : Type) → List (DataW H) → Bool := fun _ ds => decide (uptoBulkAll ds ≤ 1048576)
def OpenSpec.upto (s : _root_.Go.ChangeSpec) : _root_.Go.OpenSpec := { _root_.Go.OpenSpec.ofChange s with cond := some uptoSmall }

/-- 'laws.FnExactCalm', WHERE WHAT IT READS IS OF BULK AT MOST 1048576: true; the input reads as it did. -/
def fnExactCalmUptoRow : OpenClaim := { program := "ytlmlhkmkabklmaa", sum := "ab2bb4f17a6a49d7e6f9ab418fd0b3dcf95ae77118757ca688e3b0dab5abebbd", func := "loop.example/g00056/laws.FnExactCalm", spec := "fnExactCalm", apart := false, narrowed := true }
def FnExactCalmUptoSaid : Prop := fnExactCalmUptoRow.holds Try.pinned (OpenSpec.upto fnExactCalmSpec)

/-- 'laws.FnSpectrum', WHERE WHAT IT READS IS OF BULK AT MOST 1048576: true; the input reads as it did. -/
def fnSpectrumUptoRow : OpenClaim := { program := "ytlmlhkmkabklmaa", sum := "ab2bb4f17a6a49d7e6f9ab418fd0b3dcf95ae77118757ca688e3b0dab5abebbd", func := "loop.example/g00056/laws.FnSpectrum", spec := "fnSpectrum", apart := false, narrowed := true }
def FnSpectrumUptoSaid : Prop := fnSpectrumUptoRow.holds Try.pinned (OpenSpec.upto fnSpectrumSpec)

/-- 'laws.FnExactSpectrum', WHERE WHAT IT READS IS OF BULK AT MOST 1048576: true; the input reads as it did. -/
def fnExactSpectrumUptoRow : OpenClaim := { program := "ytlmlhkmkabklmaa", sum := "ab2bb4f17a6a49d7e6f9ab418fd0b3dcf95ae77118757ca688e3b0dab5abebbd", func := "loop.example/g00056/laws.FnExactSpectrum", spec := "fnExactSpectrum", apart := false, narrowed := true }
def FnExactSpectrumUptoSaid : Prop := fnExactSpectrumUptoRow.holds Try.pinned (OpenSpec.upto fnExactSpectrumSpec)

/-- 'laws.FnExactSway', WHERE WHAT IT READS IS OF BULK AT MOST 1048576: true; the input reads as it did. -/
def fnExactSwayUptoRow : OpenClaim := { program := "ytlmlhkmkabklmaa", sum := "ab2bb4f17a6a49d7e6f9ab418fd0b3dcf95ae77118757ca688e3b0dab5abebbd", func := "loop.example/g00056/laws.FnExactSway", spec := "fnExactSway", apart := false, narrowed := true }
def FnExactSwayUptoSaid : Prop := fnExactSwayUptoRow.holds Try.pinned (OpenSpec.upto fnExactSwaySpec)

/-- 'laws.FnExactLoudest', WHERE WHAT IT READS IS OF BULK AT MOST 1048576: true; the input reads as it did. -/
def fnExactLoudestUptoRow : OpenClaim := { program := "ytlmlhkmkabklmaa", sum := "ab2bb4f17a6a49d7e6f9ab418fd0b3dcf95ae77118757ca688e3b0dab5abebbd", func := "loop.example/g00056/laws.FnExactLoudest", spec := "fnExactLoudest", apart := false, narrowed := true }
def FnExactLoudestUptoSaid : Prop := fnExactLoudestUptoRow.holds Try.pinned (OpenSpec.upto fnExactLoudestSpec)

/-- 'laws.FnSway', WHERE WHAT IT READS IS OF BULK AT MOST 1048576: true; the input reads as it did. -/
def fnSwayUptoRow : OpenClaim := { program := "ytlmlhkmkabklmaa", sum := "ab2bb4f17a6a49d7e6f9ab418fd0b3dcf95ae77118757ca688e3b0dab5abebbd", func := "loop.example/g00056/laws.FnSway", spec := "fnSway", apart := false, narrowed := true }
def FnSwayUptoSaid : Prop := fnSwayUptoRow.holds Try.pinned (OpenSpec.upto fnSwaySpec)

end Rows
end Go.Proofs.Ytlmlhkmkabklmaa
