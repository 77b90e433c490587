/-
  No cell of these rows narrows 'for every input' (looked for: loops, veiled, ifaces, maps, wideKeys, modest, calm, conditions, laid).
  DERIVED. THE GIVEN ROWS OF THIS SEAT. 5 by the template 'for every input the law returns true; each argument reads behind the call as it read before'; 0 by the template 'total and deterministic' (their statements: YtnbkdfnlggmopaaTotals.lean).
  GIVEN WITH THE SEED: the statements are not yours to turn. If you find one false, say at which input.
  Laid BY PROGRAM, IN A SANDBOX (cutbox-rows.mjs): the forced cells as the released guide's own fill.sh prints them over the translation 5257ff2121afe0a6… (all of the seat's roots in one cut). By AI agents, Wed Nov 11 2026. No macro, syntax, notation, axiom, sorry.
-/
import Derived.Test.YtnbkdfnlggmopaaChecked
import GoSem.Claim
import GoSem.ClaimJoined
import GoSem.ClaimMapViews
import Derived.JoinedTies
import Derived.KernelRfl
namespace Go.Proofs.Ytnbkdfnlggmopaa
/- THE CELL 'sum', in the pinned program and in every row, IS THE sha256 OF THE DUMP (.gsa) THAT YtnbkdfnlggmopaaProg.lean LOADS. Nothing in Lean hashes anything: it is a label: what it is worth is what the hold of that sum in a sandbox is worth. -/
noncomputable def Try.pinned : Pinned := { name := "ytnbkdfnlggmopaa", sum := "5257ff2121afe0a6234f0f33a6568baae1dc5144a19d247ad55442fe4cd31a85", checked := Try.checked }
namespace Rows
def none {H : Type} : Left H := { results := [], args := [] }

/-- 'laws.FnSketch': WHATEVER THE INPUT: true; the input reads as it did. -/
def fnSketchSpec : ChangeSpec := { name := "fnSketch", fn := fun _ => fun
  | [d] => { results := [.lit (.bool true)], args := [d] }
  | _ => none }
def fnSketchRow : OpenClaim := { program := "ytnbkdfnlggmopaa", sum := "5257ff2121afe0a6234f0f33a6568baae1dc5144a19d247ad55442fe4cd31a85", func := "loop.example/g00056/laws.FnSketch", spec := "fnSketch", unfollowed := true, recurses := true, apart := false }
def FnSketchSaid : Prop := fnSketchRow.holds Try.pinned (OpenSpec.ofChange fnSketchSpec)

/-- ITS FALSE NEIGHBOUR: 'it returns false'. Refute it at one input. -/
def fnSketchWrong : ChangeSpec := { name := "fnSketch", fn := fun _ => fun
  | [d] => { results := [.lit (.bool false)], args := [d] }
  | _ => none }
def FnSketchWrongFalsely : Prop := fnSketchRow.holds Try.pinned (OpenSpec.ofChange fnSketchWrong)

/-- 'laws.FnExactSketchOK': WHATEVER THE INPUT: true; the input reads as it did. -/
def fnExactSketchOKSpec : ChangeSpec := { name := "fnExactSketchOK", fn := fun _ => fun
  | [d] => { results := [.lit (.bool true)], args := [d] }
  | _ => none }
def fnExactSketchOKRow : OpenClaim := { program := "ytnbkdfnlggmopaa", sum := "5257ff2121afe0a6234f0f33a6568baae1dc5144a19d247ad55442fe4cd31a85", func := "loop.example/g00056/laws.FnExactSketchOK", spec := "fnExactSketchOK", apart := false }
def FnExactSketchOKSaid : Prop := fnExactSketchOKRow.holds Try.pinned (OpenSpec.ofChange fnExactSketchOKSpec)

/-- ITS FALSE NEIGHBOUR: 'it returns false'. Refute it at one input. -/
def fnExactSketchOKWrong : ChangeSpec := { name := "fnExactSketchOK", fn := fun _ => fun
  | [d] => { results := [.lit (.bool false)], args := [d] }
  | _ => none }
def FnExactSketchOKWrongFalsely : Prop := fnExactSketchOKRow.holds Try.pinned (OpenSpec.ofChange fnExactSketchOKWrong)

/-- 'laws.FnMove': WHATEVER THE INPUT: true; the input reads as it did. -/
def fnMoveSpec : ChangeSpec := { name := "fnMove", fn := fun _ => fun
  | [d1, d2] => { results := [.lit (.bool true)], args := [d1, d2] }
  | _ => none }
def fnMoveRow : OpenClaim := { program := "ytnbkdfnlggmopaa", sum := "5257ff2121afe0a6234f0f33a6568baae1dc5144a19d247ad55442fe4cd31a85", func := "loop.example/g00056/laws.FnMove", spec := "fnMove", unfollowed := true, recurses := true, apart := false }
def FnMoveSaid : Prop := fnMoveRow.holds Try.pinned (OpenSpec.ofChange fnMoveSpec)

/-- ITS FALSE NEIGHBOUR: 'it returns false'. Refute it at one input. -/
def fnMoveWrong : ChangeSpec := { name := "fnMove", fn := fun _ => fun
  | [d1, d2] => { results := [.lit (.bool false)], args := [d1, d2] }
  | _ => none }
def FnMoveWrongFalsely : Prop := fnMoveRow.holds Try.pinned (OpenSpec.ofChange fnMoveWrong)

/-- 'laws.FnExactSketchSolve': WHATEVER THE INPUT: true; the input reads as it did. -/
def fnExactSketchSolveSpec : ChangeSpec := { name := "fnExactSketchSolve", fn := fun _ => fun
  | [d] => { results := [.lit (.bool true)], args := [d] }
  | _ => none }
def fnExactSketchSolveRow : OpenClaim := { program := "ytnbkdfnlggmopaa", sum := "5257ff2121afe0a6234f0f33a6568baae1dc5144a19d247ad55442fe4cd31a85", func := "loop.example/g00056/laws.FnExactSketchSolve", spec := "fnExactSketchSolve", unfollowed := true, recurses := true, apart := false }
def FnExactSketchSolveSaid : Prop := fnExactSketchSolveRow.holds Try.pinned (OpenSpec.ofChange fnExactSketchSolveSpec)

/-- ITS FALSE NEIGHBOUR: 'it returns false'. Refute it at one input. -/
def fnExactSketchSolveWrong : ChangeSpec := { name := "fnExactSketchSolve", fn := fun _ => fun
  | [d] => { results := [.lit (.bool false)], args := [d] }
  | _ => none }
def FnExactSketchSolveWrongFalsely : Prop := fnExactSketchSolveRow.holds Try.pinned (OpenSpec.ofChange fnExactSketchSolveWrong)

/-- 'laws.FnExactSketchMove': WHATEVER THE INPUT: true; the input reads as it did. -/
def fnExactSketchMoveSpec : ChangeSpec := { name := "fnExactSketchMove", fn := fun _ => fun
  | [d1, d2, d3] => { results := [.lit (.bool true)], args := [d1, d2, d3] }
  | _ => none }
def fnExactSketchMoveRow : OpenClaim := { program := "ytnbkdfnlggmopaa", sum := "5257ff2121afe0a6234f0f33a6568baae1dc5144a19d247ad55442fe4cd31a85", func := "loop.example/g00056/laws.FnExactSketchMove", spec := "fnExactSketchMove", unfollowed := true, recurses := true, apart := false }
def FnExactSketchMoveSaid : Prop := fnExactSketchMoveRow.holds Try.pinned (OpenSpec.ofChange fnExactSketchMoveSpec)

/-- ITS FALSE NEIGHBOUR: 'it returns false'. Refute it at one input. -/
def fnExactSketchMoveWrong : ChangeSpec := { name := "fnExactSketchMove", fn := fun _ => fun
  | [d1, d2, d3] => { results := [.lit (.bool false)], args := [d1, d2, d3] }
  | _ => none }
def FnExactSketchMoveWrongFalsely : Prop := fnExactSketchMoveRow.holds Try.pinned (OpenSpec.ofChange fnExactSketchMoveWrong)

/- THE SECOND FORM. 'bulk': how many values and letters a reading holds, each counted each time it is reached (what is shared counts as often as it is met; a slice's spare places count too). A statement '..UptoSaid' is the law's where the arguments, and the package variables that the reading takes, are together of bulk at most 1048576: NARROWER than '..Said'. Prove '..Said' where nothing that the law and all that it calls make is longer than what came in: it says more and counts as full. Else prove '..UptoSaid'. A law counts once. -/
mutual
def uptoBulk {H : Type} : DataW H → Nat
  | .lit (.string bytes) => bytes.length + 1
  | .lit _ => 1
  | .nil => 1
  | .ptr d => uptoBulk d + 1
  | .slice elems spare => uptoBulkAll elems + uptoBulkAll spare + 1
  | .agg parts => uptoBulkAll parts + 1
  | .iface _ d => uptoBulk d + 1
  | .map entries => uptoBulkEntries entries + 1
  | .held _ => 1
def uptoBulkAll {H : Type} : List (DataW H) → Nat
  | [] => 0
  | d :: r => uptoBulk d + uptoBulkAll r
def uptoBulkEntries {H : Type} : List (Lit × DataW H) → Nat
  | [] => 0
  | x :: r => uptoBulkEntry x + uptoBulkEntries r
def uptoBulkEntry {H : Type} : Lit × DataW H → Nat
  | (.string bytes, d) => bytes.length + uptoBulk d + 1
  | (_, d) => uptoBulk d + 1
 end
def uptoSmall : (H : Type) → List (DataW H) → Bool := fun _ ds => decide (uptoBulkAll ds ≤ 1048576)
def OpenSpec.upto (s : _root_.Go.ChangeSpec) : _root_.Go.OpenSpec := { _root_.Go.OpenSpec.ofChange s with cond := some uptoSmall }

/-- 'laws.FnSketch', WHERE WHAT IT READS IS OF BULK AT MOST 1048576: true; the input reads as it did. -/
def fnSketchUptoRow : OpenClaim := { program := "ytnbkdfnlggmopaa", sum := "5257ff2121afe0a6234f0f33a6568baae1dc5144a19d247ad55442fe4cd31a85", func := "loop.example/g00056/laws.FnSketch", spec := "fnSketch", unfollowed := true, recurses := true, apart := false, narrowed := true }
def FnSketchUptoSaid : Prop := fnSketchUptoRow.holds Try.pinned (OpenSpec.upto fnSketchSpec)

/-- 'laws.FnExactSketchOK', WHERE WHAT IT READS IS OF BULK AT MOST 1048576: true; the input reads as it did. -/
def fnExactSketchOKUptoRow : OpenClaim := { program := "ytnbkdfnlggmopaa", sum := "5257ff2121afe0a6234f0f33a6568baae1dc5144a19d247ad55442fe4cd31a85", func := "loop.example/g00056/laws.FnExactSketchOK", spec := "fnExactSketchOK", apart := false, narrowed := true }
def FnExactSketchOKUptoSaid : Prop := fnExactSketchOKUptoRow.holds Try.pinned (OpenSpec.upto fnExactSketchOKSpec)

/-- 'laws.FnMove', WHERE WHAT IT READS IS OF BULK AT MOST 1048576: true; the input reads as it did. -/
def fnMoveUptoRow : OpenClaim := { program := "ytnbkdfnlggmopaa", sum := "5257ff2121afe0a6234f0f33a6568baae1dc5144a19d247ad55442fe4cd31a85", func := "loop.example/g00056/laws.FnMove", spec := "fnMove", unfollowed := true, recurses := true, apart := false, narrowed := true }
def FnMoveUptoSaid : Prop := fnMoveUptoRow.holds Try.pinned (OpenSpec.upto fnMoveSpec)

/-- 'laws.FnExactSketchSolve', WHERE WHAT IT READS IS OF BULK AT MOST 1048576: true; the input reads as it did. -/
def fnExactSketchSolveUptoRow : OpenClaim := { program := "ytnbkdfnlggmopaa", sum := "5257ff2121afe0a6234f0f33a6568baae1dc5144a19d247ad55442fe4cd31a85", func := "loop.example/g00056/laws.FnExactSketchSolve", spec := "fnExactSketchSolve", unfollowed := true, recurses := true, apart := false, narrowed := true }
def FnExactSketchSolveUptoSaid : Prop := fnExactSketchSolveUptoRow.holds Try.pinned (OpenSpec.upto fnExactSketchSolveSpec)

/-- 'laws.FnExactSketchMove', WHERE WHAT IT READS IS OF BULK AT MOST 1048576: true; the input reads as it did. -/
def fnExactSketchMoveUptoRow : OpenClaim := { program := "ytnbkdfnlggmopaa", sum := "5257ff2121afe0a6234f0f33a6568baae1dc5144a19d247ad55442fe4cd31a85", func := "loop.example/g00056/laws.FnExactSketchMove", spec := "fnExactSketchMove", unfollowed := true, recurses := true, apart := false, narrowed := true }
def FnExactSketchMoveUptoSaid : Prop := fnExactSketchMoveUptoRow.holds Try.pinned (OpenSpec.upto fnExactSketchMoveSpec)

end Rows
end Go.Proofs.Ytnbkdfnlggmopaa
