/-
  No cell of these rows narrows 'for every input' (looked for: loops, veiled, ifaces, maps, wideKeys, modest, calm, conditions, laid).
  DERIVED. THE GIVEN ROWS OF THIS SEAT. 6 by the template 'for every input the law returns true; each argument reads behind the call as it read before'; 0 by the template 'total and deterministic' (their statements: YtgmbbcnfcddamaaTotals.lean).
  GIVEN WITH THE SEED: the statements are not yours to turn. If you find one false, say at which input.
  Laid BY PROGRAM, IN A SANDBOX (cutbox-rows.mjs): the forced cells as the released guide's own fill.sh prints them over the translation d80c6c15995c5ab0… (all of the seat's roots in one cut). By AI agents, Wed Nov 11 2026. No macro, syntax, notation, axiom, sorry.
-/
import Derived.Test.YtgmbbcnfcddamaaChecked
import GoSem.Claim
import GoSem.ClaimJoined
import GoSem.ClaimMapViews
import Derived.JoinedTies
import Derived.KernelRfl
namespace Go.Proofs.Ytgmbbcnfcddamaa
/- THE CELL 'sum', in the pinned program and in every row, IS THE sha256 OF THE DUMP (.gsa) THAT YtgmbbcnfcddamaaProg.lean LOADS. Nothing in Lean hashes anything: it is a label: what it is worth is what the hold of that sum in a sandbox is worth. -/
noncomputable def Try.pinned : Pinned := { name := "ytgmbbcnfcddamaa", sum := "d80c6c15995c5ab03531639f54ef0d5978ab3ff7126440a647819b6dbaa2b8aa", checked := Try.checked }
namespace Rows
def none {H : Type} : Left H := { results := [], args := [] }

/-- 'laws.FnExactFloor': WHATEVER THE INPUT: true; the input reads as it did. -/
def fnExactFloorSpec : ChangeSpec := { name := "fnExactFloor", fn := fun _ => fun
  | [d1, d2] => { results := [.lit (.bool true)], args := [d1, d2] }
  | _ => none }
def fnExactFloorRow : OpenClaim := { program := "ytgmbbcnfcddamaa", sum := "d80c6c15995c5ab03531639f54ef0d5978ab3ff7126440a647819b6dbaa2b8aa", func := "loop.example/g00056/laws.FnExactFloor", spec := "fnExactFloor", apart := false }
def FnExactFloorSaid : Prop := fnExactFloorRow.holds Try.pinned (OpenSpec.ofChange fnExactFloorSpec)

/-- ITS FALSE NEIGHBOUR: 'it returns false'. Refute it at one input. -/
def fnExactFloorWrong : ChangeSpec := { name := "fnExactFloor", fn := fun _ => fun
  | [d1, d2] => { results := [.lit (.bool false)], args := [d1, d2] }
  | _ => none }
def FnExactFloorWrongFalsely : Prop := fnExactFloorRow.holds Try.pinned (OpenSpec.ofChange fnExactFloorWrong)

/-- 'laws.FnExactContour': WHATEVER THE INPUT: true; the input reads as it did. -/
def fnExactContourSpec : ChangeSpec := { name := "fnExactContour", fn := fun _ => fun
  | [d1, d2] => { results := [.lit (.bool true)], args := [d1, d2] }
  | _ => none }
def fnExactContourRow : OpenClaim := { program := "ytgmbbcnfcddamaa", sum := "d80c6c15995c5ab03531639f54ef0d5978ab3ff7126440a647819b6dbaa2b8aa", func := "loop.example/g00056/laws.FnExactContour", spec := "fnExactContour", unfollowed := true, recurses := true, apart := false }
def FnExactContourSaid : Prop := fnExactContourRow.holds Try.pinned (OpenSpec.ofChange fnExactContourSpec)

/-- ITS FALSE NEIGHBOUR: 'it returns false'. Refute it at one input. -/
def fnExactContourWrong : ChangeSpec := { name := "fnExactContour", fn := fun _ => fun
  | [d1, d2] => { results := [.lit (.bool false)], args := [d1, d2] }
  | _ => none }
def FnExactContourWrongFalsely : Prop := fnExactContourRow.holds Try.pinned (OpenSpec.ofChange fnExactContourWrong)

/-- 'laws.FnContour': WHATEVER THE INPUT: true; the input reads as it did. -/
def fnContourSpec : ChangeSpec := { name := "fnContour", fn := fun _ => fun
  | [d1, d2] => { results := [.lit (.bool true)], args := [d1, d2] }
  | _ => none }
def fnContourRow : OpenClaim := { program := "ytgmbbcnfcddamaa", sum := "d80c6c15995c5ab03531639f54ef0d5978ab3ff7126440a647819b6dbaa2b8aa", func := "loop.example/g00056/laws.FnContour", spec := "fnContour", unfollowed := true, recurses := true, apart := false }
def FnContourSaid : Prop := fnContourRow.holds Try.pinned (OpenSpec.ofChange fnContourSpec)

/-- ITS FALSE NEIGHBOUR: 'it returns false'. Refute it at one input. -/
def fnContourWrong : ChangeSpec := { name := "fnContour", fn := fun _ => fun
  | [d1, d2] => { results := [.lit (.bool false)], args := [d1, d2] }
  | _ => none }
def FnContourWrongFalsely : Prop := fnContourRow.holds Try.pinned (OpenSpec.ofChange fnContourWrong)

/-- 'laws.FnExactZigzag': WHATEVER THE INPUT: true; the input reads as it did. -/
def fnExactZigzagSpec : ChangeSpec := { name := "fnExactZigzag", fn := fun _ => fun
  | [d1, d2, d3, d4] => { results := [.lit (.bool true)], args := [d1, d2, d3, d4] }
  | _ => none }
def fnExactZigzagRow : OpenClaim := { program := "ytgmbbcnfcddamaa", sum := "d80c6c15995c5ab03531639f54ef0d5978ab3ff7126440a647819b6dbaa2b8aa", func := "loop.example/g00056/laws.FnExactZigzag", spec := "fnExactZigzag", unfollowed := true, recurses := true, apart := false }
def FnExactZigzagSaid : Prop := fnExactZigzagRow.holds Try.pinned (OpenSpec.ofChange fnExactZigzagSpec)

/-- ITS FALSE NEIGHBOUR: 'it returns false'. Refute it at one input. -/
def fnExactZigzagWrong : ChangeSpec := { name := "fnExactZigzag", fn := fun _ => fun
  | [d1, d2, d3, d4] => { results := [.lit (.bool false)], args := [d1, d2, d3, d4] }
  | _ => none }
def FnExactZigzagWrongFalsely : Prop := fnExactZigzagRow.holds Try.pinned (OpenSpec.ofChange fnExactZigzagWrong)

/-- 'laws.FnFloor': WHATEVER THE INPUT: true; the input reads as it did. -/
def fnFloorSpec : ChangeSpec := { name := "fnFloor", fn := fun _ => fun
  | [d1, d2] => { results := [.lit (.bool true)], args := [d1, d2] }
  | _ => none }
def fnFloorRow : OpenClaim := { program := "ytgmbbcnfcddamaa", sum := "d80c6c15995c5ab03531639f54ef0d5978ab3ff7126440a647819b6dbaa2b8aa", func := "loop.example/g00056/laws.FnFloor", spec := "fnFloor", apart := false }
def FnFloorSaid : Prop := fnFloorRow.holds Try.pinned (OpenSpec.ofChange fnFloorSpec)

/-- ITS FALSE NEIGHBOUR: 'it returns false'. Refute it at one input. -/
def fnFloorWrong : ChangeSpec := { name := "fnFloor", fn := fun _ => fun
  | [d1, d2] => { results := [.lit (.bool false)], args := [d1, d2] }
  | _ => none }
def FnFloorWrongFalsely : Prop := fnFloorRow.holds Try.pinned (OpenSpec.ofChange fnFloorWrong)

/-- 'laws.FnMill': WHATEVER THE INPUT: true; the input reads as it did. -/
def fnMillSpec : ChangeSpec := { name := "fnMill", fn := fun _ => fun
  | [d1, d2] => { results := [.lit (.bool true)], args := [d1, d2] }
  | _ => none }
def fnMillRow : OpenClaim := { program := "ytgmbbcnfcddamaa", sum := "d80c6c15995c5ab03531639f54ef0d5978ab3ff7126440a647819b6dbaa2b8aa", func := "loop.example/g00056/laws.FnMill", spec := "fnMill", unfollowed := true, recurses := true, apart := false }
def FnMillSaid : Prop := fnMillRow.holds Try.pinned (OpenSpec.ofChange fnMillSpec)

/-- ITS FALSE NEIGHBOUR: 'it returns false'. Refute it at one input. -/
def fnMillWrong : ChangeSpec := { name := "fnMill", fn := fun _ => fun
  | [d1, d2] => { results := [.lit (.bool false)], args := [d1, d2] }
  | _ => none }
def FnMillWrongFalsely : Prop := fnMillRow.holds Try.pinned (OpenSpec.ofChange fnMillWrong)

/- THE SECOND FORM. 'bulk': how many values and letters a reading holds, each counted each time it is reached (what is shared counts as often as it is met; a slice's spare places count too). A statement '..UptoSaid' is the law's where the arguments, and the package variables that the reading takes, are together of bulk at most 1048576: NARROWER than '..Said'. Prove '..Said' where nothing that the law and all that it calls make is longer than what came in: it says more and counts as full. Else prove '..UptoSaid'. A law counts once. -/
mutual
def uptoBulk {H : Type} : DataW H → Nat
  | .lit (.string bytes) => bytes.length + 1
  | .lit _ => 1
  | .nil => 1
  | .ptr d => uptoBulk d + 1
  | .slice elems spare => uptoBulkAll elems + uptoBulkAll spare + 1
  | .agg parts => uptoBulkAll parts + 1
  | .iface _ d => uptoBulk d + 1
  | .map entries => uptoBulkEntries entries + 1
  | .held _ => 1
def uptoBulkAll {H : Type} : List (DataW H) → Nat
  | [] => 0
  | d :: r => uptoBulk d + uptoBulkAll r
def uptoBulkEntries {H : Type} : List (Lit × DataW H) → Nat
  | [] => 0
  | x :: r => uptoBulkEntry x + uptoBulkEntries r
def uptoBulkEntry {H : Type} : Lit × DataW H → Nat
  | (.string bytes, d) => bytes.length + uptoBulk d + 1
  | (_, d) => uptoBulk d + 1
 end
def uptoSmall : (H : Type) → List (DataW H) → Bool := fun _ ds => decide (uptoBulkAll ds ≤ 1048576)
def OpenSpec.upto (s : _root_.Go.ChangeSpec) : _root_.Go.OpenSpec := { _root_.Go.OpenSpec.ofChange s with cond := some uptoSmall }

/-- 'laws.FnExactFloor', WHERE WHAT IT READS IS OF BULK AT MOST 1048576: true; the input reads as it did. -/
def fnExactFloorUptoRow : OpenClaim := { program := "ytgmbbcnfcddamaa", sum := "d80c6c15995c5ab03531639f54ef0d5978ab3ff7126440a647819b6dbaa2b8aa", func := "loop.example/g00056/laws.FnExactFloor", spec := "fnExactFloor", apart := false, narrowed := true }
def FnExactFloorUptoSaid : Prop := fnExactFloorUptoRow.holds Try.pinned (OpenSpec.upto fnExactFloorSpec)

/-- 'laws.FnExactContour', WHERE WHAT IT READS IS OF BULK AT MOST 1048576: true; the input reads as it did. -/
def fnExactContourUptoRow : OpenClaim := { program := "ytgmbbcnfcddamaa", sum := "d80c6c15995c5ab03531639f54ef0d5978ab3ff7126440a647819b6dbaa2b8aa", func := "loop.example/g00056/laws.FnExactContour", spec := "fnExactContour", unfollowed := true, recurses := true, apart := false, narrowed := true }
def FnExactContourUptoSaid : Prop := fnExactContourUptoRow.holds Try.pinned (OpenSpec.upto fnExactContourSpec)

/-- 'laws.FnContour', WHERE WHAT IT READS IS OF BULK AT MOST 1048576: true; the input reads as it did. -/
def fnContourUptoRow : OpenClaim := { program := "ytgmbbcnfcddamaa", sum := "d80c6c15995c5ab03531639f54ef0d5978ab3ff7126440a647819b6dbaa2b8aa", func := "loop.example/g00056/laws.FnContour", spec := "fnContour", unfollowed := true, recurses := true, apart := false, narrowed := true }
def FnContourUptoSaid : Prop := fnContourUptoRow.holds Try.pinned (OpenSpec.upto fnContourSpec)

/-- 'laws.FnExactZigzag', WHERE WHAT IT READS IS OF BULK AT MOST 1048576: true; the input reads as it did. -/
def fnExactZigzagUptoRow : OpenClaim := { program := "ytgmbbcnfcddamaa", sum := "d80c6c15995c5ab03531639f54ef0d5978ab3ff7126440a647819b6dbaa2b8aa", func := "loop.example/g00056/laws.FnExactZigzag", spec := "fnExactZigzag", unfollowed := true, recurses := true, apart := false, narrowed := true }
def FnExactZigzagUptoSaid : Prop := fnExactZigzagUptoRow.holds Try.pinned (OpenSpec.upto fnExactZigzagSpec)

/-- 'laws.FnFloor', WHERE WHAT IT READS IS OF BULK AT MOST 1048576: true; the input reads as it did. -/
def fnFloorUptoRow : OpenClaim := { program := "ytgmbbcnfcddamaa", sum := "d80c6c15995c5ab03531639f54ef0d5978ab3ff7126440a647819b6dbaa2b8aa", func := "loop.example/g00056/laws.FnFloor", spec := "fnFloor", apart := false, narrowed := true }
def FnFloorUptoSaid : Prop := fnFloorUptoRow.holds Try.pinned (OpenSpec.upto fnFloorSpec)

/-- 'laws.FnMill', WHERE WHAT IT READS IS OF BULK AT MOST 1048576: true; the input reads as it did. -/
def fnMillUptoRow : OpenClaim := { program := "ytgmbbcnfcddamaa", sum := "d80c6c15995c5ab03531639f54ef0d5978ab3ff7126440a647819b6dbaa2b8aa", func := "loop.example/g00056/laws.FnMill", spec := "fnMill", unfollowed := true, recurses := true, apart := false, narrowed := true }
def FnMillUptoSaid : Prop := fnMillUptoRow.holds Try.pinned (OpenSpec.upto fnMillSpec)

end Rows
end Go.Proofs.Ytgmbbcnfcddamaa
