/-
  No cell of these rows narrows 'for every input' (looked for: loops, veiled, ifaces, maps, wideKeys, modest, calm, conditions, laid).
  DERIVED. THE GIVEN ROWS OF THIS SEAT. 11 by the template 'for every input the law returns true; each argument reads behind the call as it read before'; 0 by the template 'total and deterministic' (their statements: YtbfjpolihoaafaaTotals.lean).
  GIVEN WITH THE SEED: the statements are not yours to turn. If you find one false, say at which input.
  Laid BY PROGRAM, IN A SANDBOX (cutbox-rows.mjs): the forced cells as the released guide's own fill.sh prints them over the translation 486f161d1af326e2… (all of the seat's roots in one cut). By AI agents, Wed Nov 11 2026. No macro, syntax, notation, axiom, sorry.
-/
import Derived.Test.YtbfjpolihoaafaaChecked
import GoSem.Claim
import GoSem.ClaimJoined
import GoSem.ClaimMapViews
import Derived.JoinedTies
import Derived.KernelRfl
namespace Go.Proofs.Ytbfjpolihoaafaa
/- THE CELL 'sum', in the pinned program and in every row, IS THE sha256 OF THE DUMP (.gsa) THAT YtbfjpolihoaafaaProg.lean LOADS. Nothing in Lean hashes anything: it is a label: what it is worth is what the hold of that sum in a sandbox is worth. -/
noncomputable def Try.pinned : Pinned := { name := "ytbfjpolihoaafaa", sum := "486f161d1af326e2575762d58fe43fe5d0e28879c8ece98d816f5bc16971d06f", checked := Try.checked }
namespace Rows
def none {H : Type} : Left H := { results := [], args := [] }

/-- 'laws.FnExactConstants': WHATEVER THE INPUT: true; the input reads as it did. -/
def fnExactConstantsSpec : ChangeSpec := { name := "fnExactConstants", fn := fun _ => fun
  | [] => { results := [.lit (.bool true)], args := [] }
  | _ => none }
def fnExactConstantsRow : OpenClaim := { program := "ytbfjpolihoaafaa", sum := "486f161d1af326e2575762d58fe43fe5d0e28879c8ece98d816f5bc16971d06f", func := "loop.example/g00056/laws.FnExactConstants", spec := "fnExactConstants", apart := false }
def FnExactConstantsSaid : Prop := fnExactConstantsRow.holds Try.pinned (OpenSpec.ofChange fnExactConstantsSpec)

/-- ITS FALSE NEIGHBOUR: 'it returns false'. Refute it at one input. -/
def fnExactConstantsWrong : ChangeSpec := { name := "fnExactConstants", fn := fun _ => fun
  | [] => { results := [.lit (.bool false)], args := [] }
  | _ => none }
def FnExactConstantsWrongFalsely : Prop := fnExactConstantsRow.holds Try.pinned (OpenSpec.ofChange fnExactConstantsWrong)

/-- 'laws.FnExactJudge': WHATEVER THE INPUT: true; the input reads as it did. -/
def fnExactJudgeSpec : ChangeSpec := { name := "fnExactJudge", fn := fun _ => fun
  | [d1, d2, d3, d4] => { results := [.lit (.bool true)], args := [d1, d2, d3, d4] }
  | _ => none }
def fnExactJudgeRow : OpenClaim := { program := "ytbfjpolihoaafaa", sum := "486f161d1af326e2575762d58fe43fe5d0e28879c8ece98d816f5bc16971d06f", func := "loop.example/g00056/laws.FnExactJudge", spec := "fnExactJudge", unfollowed := true, recurses := true, apart := false }
def FnExactJudgeSaid : Prop := fnExactJudgeRow.holds Try.pinned (OpenSpec.ofChange fnExactJudgeSpec)

/-- ITS FALSE NEIGHBOUR: 'it returns false'. Refute it at one input. -/
def fnExactJudgeWrong : ChangeSpec := { name := "fnExactJudge", fn := fun _ => fun
  | [d1, d2, d3, d4] => { results := [.lit (.bool false)], args := [d1, d2, d3, d4] }
  | _ => none }
def FnExactJudgeWrongFalsely : Prop := fnExactJudgeRow.holds Try.pinned (OpenSpec.ofChange fnExactJudgeWrong)

/-- 'laws.FnExactFitKind': WHATEVER THE INPUT: true; the input reads as it did. -/
def fnExactFitKindSpec : ChangeSpec := { name := "fnExactFitKind", fn := fun _ => fun
  | [d1, d2, d3, d4] => { results := [.lit (.bool true)], args := [d1, d2, d3, d4] }
  | _ => none }
def fnExactFitKindRow : OpenClaim := { program := "ytbfjpolihoaafaa", sum := "486f161d1af326e2575762d58fe43fe5d0e28879c8ece98d816f5bc16971d06f", func := "loop.example/g00056/laws.FnExactFitKind", spec := "fnExactFitKind", apart := false }
def FnExactFitKindSaid : Prop := fnExactFitKindRow.holds Try.pinned (OpenSpec.ofChange fnExactFitKindSpec)

/-- ITS FALSE NEIGHBOUR: 'it returns false'. Refute it at one input. -/
def fnExactFitKindWrong : ChangeSpec := { name := "fnExactFitKind", fn := fun _ => fun
  | [d1, d2, d3, d4] => { results := [.lit (.bool false)], args := [d1, d2, d3, d4] }
  | _ => none }
def FnExactFitKindWrongFalsely : Prop := fnExactFitKindRow.holds Try.pinned (OpenSpec.ofChange fnExactFitKindWrong)

/-- 'laws.FnExactFracOK': WHATEVER THE INPUT: true; the input reads as it did. -/
def fnExactFracOKSpec : ChangeSpec := { name := "fnExactFracOK", fn := fun _ => fun
  | [d] => { results := [.lit (.bool true)], args := [d] }
  | _ => none }
def fnExactFracOKRow : OpenClaim := { program := "ytbfjpolihoaafaa", sum := "486f161d1af326e2575762d58fe43fe5d0e28879c8ece98d816f5bc16971d06f", func := "loop.example/g00056/laws.FnExactFracOK", spec := "fnExactFracOK", apart := false }
def FnExactFracOKSaid : Prop := fnExactFracOKRow.holds Try.pinned (OpenSpec.ofChange fnExactFracOKSpec)

/-- ITS FALSE NEIGHBOUR: 'it returns false'. Refute it at one input. -/
def fnExactFracOKWrong : ChangeSpec := { name := "fnExactFracOK", fn := fun _ => fun
  | [d] => { results := [.lit (.bool false)], args := [d] }
  | _ => none }
def FnExactFracOKWrongFalsely : Prop := fnExactFracOKRow.holds Try.pinned (OpenSpec.ofChange fnExactFracOKWrong)

/-- 'laws.FnExactFileSum': WHATEVER THE INPUT: true; the input reads as it did. -/
def fnExactFileSumSpec : ChangeSpec := { name := "fnExactFileSum", fn := fun _ => fun
  | [d] => { results := [.lit (.bool true)], args := [d] }
  | _ => none }
def fnExactFileSumRow : OpenClaim := { program := "ytbfjpolihoaafaa", sum := "486f161d1af326e2575762d58fe43fe5d0e28879c8ece98d816f5bc16971d06f", func := "loop.example/g00056/laws.FnExactFileSum", spec := "fnExactFileSum", apart := false }
def FnExactFileSumSaid : Prop := fnExactFileSumRow.holds Try.pinned (OpenSpec.ofChange fnExactFileSumSpec)

/-- ITS FALSE NEIGHBOUR: 'it returns false'. Refute it at one input. -/
def fnExactFileSumWrong : ChangeSpec := { name := "fnExactFileSum", fn := fun _ => fun
  | [d] => { results := [.lit (.bool false)], args := [d] }
  | _ => none }
def FnExactFileSumWrongFalsely : Prop := fnExactFileSumRow.holds Try.pinned (OpenSpec.ofChange fnExactFileSumWrong)

/-- 'laws.FnExactFracLess': WHATEVER THE INPUT: true; the input reads as it did. -/
def fnExactFracLessSpec : ChangeSpec := { name := "fnExactFracLess", fn := fun _ => fun
  | [d1, d2] => { results := [.lit (.bool true)], args := [d1, d2] }
  | _ => none }
def fnExactFracLessRow : OpenClaim := { program := "ytbfjpolihoaafaa", sum := "486f161d1af326e2575762d58fe43fe5d0e28879c8ece98d816f5bc16971d06f", func := "loop.example/g00056/laws.FnExactFracLess", spec := "fnExactFracLess", apart := false }
def FnExactFracLessSaid : Prop := fnExactFracLessRow.holds Try.pinned (OpenSpec.ofChange fnExactFracLessSpec)

/-- ITS FALSE NEIGHBOUR: 'it returns false'. Refute it at one input. -/
def fnExactFracLessWrong : ChangeSpec := { name := "fnExactFracLess", fn := fun _ => fun
  | [d1, d2] => { results := [.lit (.bool false)], args := [d1, d2] }
  | _ => none }
def FnExactFracLessWrongFalsely : Prop := fnExactFracLessRow.holds Try.pinned (OpenSpec.ofChange fnExactFracLessWrong)

/-- 'laws.FnExactTurn': WHATEVER THE INPUT: true; the input reads as it did. -/
def fnExactTurnSpec : ChangeSpec := { name := "fnExactTurn", fn := fun _ => fun
  | [d1, d2, d3] => { results := [.lit (.bool true)], args := [d1, d2, d3] }
  | _ => none }
def fnExactTurnRow : OpenClaim := { program := "ytbfjpolihoaafaa", sum := "486f161d1af326e2575762d58fe43fe5d0e28879c8ece98d816f5bc16971d06f", func := "loop.example/g00056/laws.FnExactTurn", spec := "fnExactTurn", apart := false }
def FnExactTurnSaid : Prop := fnExactTurnRow.holds Try.pinned (OpenSpec.ofChange fnExactTurnSpec)

/-- ITS FALSE NEIGHBOUR: 'it returns false'. Refute it at one input. -/
def fnExactTurnWrong : ChangeSpec := { name := "fnExactTurn", fn := fun _ => fun
  | [d1, d2, d3] => { results := [.lit (.bool false)], args := [d1, d2, d3] }
  | _ => none }
def FnExactTurnWrongFalsely : Prop := fnExactTurnRow.holds Try.pinned (OpenSpec.ofChange fnExactTurnWrong)

/-- 'laws.FnExactFieldOK': WHATEVER THE INPUT: true; the input reads as it did. -/
def fnExactFieldOKSpec : ChangeSpec := { name := "fnExactFieldOK", fn := fun _ => fun
  | [d] => { results := [.lit (.bool true)], args := [d] }
  | _ => none }
def fnExactFieldOKRow : OpenClaim := { program := "ytbfjpolihoaafaa", sum := "486f161d1af326e2575762d58fe43fe5d0e28879c8ece98d816f5bc16971d06f", func := "loop.example/g00056/laws.FnExactFieldOK", spec := "fnExactFieldOK", apart := false }
def FnExactFieldOKSaid : Prop := fnExactFieldOKRow.holds Try.pinned (OpenSpec.ofChange fnExactFieldOKSpec)

/-- ITS FALSE NEIGHBOUR: 'it returns false'. Refute it at one input. -/
def fnExactFieldOKWrong : ChangeSpec := { name := "fnExactFieldOK", fn := fun _ => fun
  | [d] => { results := [.lit (.bool false)], args := [d] }
  | _ => none }
def FnExactFieldOKWrongFalsely : Prop := fnExactFieldOKRow.holds Try.pinned (OpenSpec.ofChange fnExactFieldOKWrong)

/-- 'laws.FnKinds': WHATEVER THE INPUT: true; the input reads as it did. -/
def fnKindsSpec : ChangeSpec := { name := "fnKinds", fn := fun _ => fun
  | [d1, d2] => { results := [.lit (.bool true)], args := [d1, d2] }
  | _ => none }
def fnKindsRow : OpenClaim := { program := "ytbfjpolihoaafaa", sum := "486f161d1af326e2575762d58fe43fe5d0e28879c8ece98d816f5bc16971d06f", func := "loop.example/g00056/laws.FnKinds", spec := "fnKinds", apart := false }
def FnKindsSaid : Prop := fnKindsRow.holds Try.pinned (OpenSpec.ofChange fnKindsSpec)

/-- ITS FALSE NEIGHBOUR: 'it returns false'. Refute it at one input. -/
def fnKindsWrong : ChangeSpec := { name := "fnKinds", fn := fun _ => fun
  | [d1, d2] => { results := [.lit (.bool false)], args := [d1, d2] }
  | _ => none }
def FnKindsWrongFalsely : Prop := fnKindsRow.holds Try.pinned (OpenSpec.ofChange fnKindsWrong)

/-- 'laws.FnExactRest': WHATEVER THE INPUT: true; the input reads as it did. -/
def fnExactRestSpec : ChangeSpec := { name := "fnExactRest", fn := fun _ => fun
  | [d1, d2] => { results := [.lit (.bool true)], args := [d1, d2] }
  | _ => none }
def fnExactRestRow : OpenClaim := { program := "ytbfjpolihoaafaa", sum := "486f161d1af326e2575762d58fe43fe5d0e28879c8ece98d816f5bc16971d06f", func := "loop.example/g00056/laws.FnExactRest", spec := "fnExactRest", apart := false }
def FnExactRestSaid : Prop := fnExactRestRow.holds Try.pinned (OpenSpec.ofChange fnExactRestSpec)

/-- ITS FALSE NEIGHBOUR: 'it returns false'. Refute it at one input. -/
def fnExactRestWrong : ChangeSpec := { name := "fnExactRest", fn := fun _ => fun
  | [d1, d2] => { results := [.lit (.bool false)], args := [d1, d2] }
  | _ => none }
def FnExactRestWrongFalsely : Prop := fnExactRestRow.holds Try.pinned (OpenSpec.ofChange fnExactRestWrong)

/-- 'laws.FnExactFracRound': WHATEVER THE INPUT: true; the input reads as it did. -/
def fnExactFracRoundSpec : ChangeSpec := { name := "fnExactFracRound", fn := fun _ => fun
  | [d1, d2] => { results := [.lit (.bool true)], args := [d1, d2] }
  | _ => none }
def fnExactFracRoundRow : OpenClaim := { program := "ytbfjpolihoaafaa", sum := "486f161d1af326e2575762d58fe43fe5d0e28879c8ece98d816f5bc16971d06f", func := "loop.example/g00056/laws.FnExactFracRound", spec := "fnExactFracRound", apart := false }
def FnExactFracRoundSaid : Prop := fnExactFracRoundRow.holds Try.pinned (OpenSpec.ofChange fnExactFracRoundSpec)

/-- ITS FALSE NEIGHBOUR: 'it returns false'. Refute it at one input. -/
def fnExactFracRoundWrong : ChangeSpec := { name := "fnExactFracRound", fn := fun _ => fun
  | [d1, d2] => { results := [.lit (.bool false)], args := [d1, d2] }
  | _ => none }
def FnExactFracRoundWrongFalsely : Prop := fnExactFracRoundRow.holds Try.pinned (OpenSpec.ofChange fnExactFracRoundWrong)

/- THE SECOND FORM. 'bulk': how many values and letters a reading holds, each counted each time it is reached (what is shared counts as often as it is met; a slice's spare places count too). A statement '..UptoSaid' is the law's where the arguments, and the package variables that the reading takes, are together of bulk at most 1048576: NARROWER than '..Said'. Prove '..Said' where nothing that the law and all that it calls make is longer than what came in: it says more and counts as full. Else prove '..UptoSaid'. A law counts once. -/
mutual
def uptoBulk {H : Type} : DataW H → Nat
  | .lit (.string bytes) => bytes.length + 1
  | .lit _ => 1
  | .nil => 1
  | .ptr d => uptoBulk d + 1
  | .slice elems spare => uptoBulkAll elems + uptoBulkAll spare + 1
  | .agg parts => uptoBulkAll parts + 1
  | .iface _ d => uptoBulk d + 1
  | .map entries => uptoBulkEntries entries + 1
  | .held _ => 1
def uptoBulkAll {H : Type} : List (DataW H) → Nat
  | [] => 0
  | d :: r => uptoBulk d + uptoBulkAll r
def uptoBulkEntries {H : Type} : List (Lit × DataW H) → Nat
  | [] => 0
  | x :: r => uptoBulkEntry x + uptoBulkEntries r
def uptoBulkEntry {H : Type} : Lit × DataW H → Nat
  | (.string bytes, d) => bytes.length + uptoBulk d + 1
  | (_, d) => uptoBulk d + 1
 end
def uptoSmall : (H : Type) → List (DataW H) → Bool := fun _ ds => decide (uptoBulkAll ds ≤ 1048576)
def OpenSpec.upto (s : _root_.Go.ChangeSpec) : _root_.Go.OpenSpec := { _root_.Go.OpenSpec.ofChange s with cond := some uptoSmall }

/-- 'laws.FnExactConstants', WHERE WHAT IT READS IS OF BULK AT MOST 1048576: true; the input reads as it did. -/
def fnExactConstantsUptoRow : OpenClaim := { program := "ytbfjpolihoaafaa", sum := "486f161d1af326e2575762d58fe43fe5d0e28879c8ece98d816f5bc16971d06f", func := "loop.example/g00056/laws.FnExactConstants", spec := "fnExactConstants", apart := false, narrowed := true }
def FnExactConstantsUptoSaid : Prop := fnExactConstantsUptoRow.holds Try.pinned (OpenSpec.upto fnExactConstantsSpec)

/-- 'laws.FnExactJudge', WHERE WHAT IT READS IS OF BULK AT MOST 1048576: true; the input reads as it did. -/
def fnExactJudgeUptoRow : OpenClaim := { program := "ytbfjpolihoaafaa", sum := "486f161d1af326e2575762d58fe43fe5d0e28879c8ece98d816f5bc16971d06f", func := "loop.example/g00056/laws.FnExactJudge", spec := "fnExactJudge", unfollowed := true, recurses := true, apart := false, narrowed := true }
def FnExactJudgeUptoSaid : Prop := fnExactJudgeUptoRow.holds Try.pinned (OpenSpec.upto fnExactJudgeSpec)

/-- 'laws.FnExactFitKind', WHERE WHAT IT READS IS OF BULK AT MOST 1048576: true; the input reads as it did. -/
def fnExactFitKindUptoRow : OpenClaim := { program := "ytbfjpolihoaafaa", sum := "486f161d1af326e2575762d58fe43fe5d0e28879c8ece98d816f5bc16971d06f", func := "loop.example/g00056/laws.FnExactFitKind", spec := "fnExactFitKind", apart := false, narrowed := true }
def FnExactFitKindUptoSaid : Prop := fnExactFitKindUptoRow.holds Try.pinned (OpenSpec.upto fnExactFitKindSpec)

/-- 'laws.FnExactFracOK', WHERE WHAT IT READS IS OF BULK AT MOST 1048576: true; the input reads as it did. -/
def fnExactFracOKUptoRow : OpenClaim := { program := "ytbfjpolihoaafaa", sum := "486f161d1af326e2575762d58fe43fe5d0e28879c8ece98d816f5bc16971d06f", func := "loop.example/g00056/laws.FnExactFracOK", spec := "fnExactFracOK", apart := false, narrowed := true }
def FnExactFracOKUptoSaid : Prop := fnExactFracOKUptoRow.holds Try.pinned (OpenSpec.upto fnExactFracOKSpec)

/-- 'laws.FnExactFileSum', WHERE WHAT IT READS IS OF BULK AT MOST 1048576: true; the input reads as it did. -/
def fnExactFileSumUptoRow : OpenClaim := { program := "ytbfjpolihoaafaa", sum := "486f161d1af326e2575762d58fe43fe5d0e28879c8ece98d816f5bc16971d06f", func := "loop.example/g00056/laws.FnExactFileSum", spec := "fnExactFileSum", apart := false, narrowed := true }
def FnExactFileSumUptoSaid : Prop := fnExactFileSumUptoRow.holds Try.pinned (OpenSpec.upto fnExactFileSumSpec)

/-- 'laws.FnExactFracLess', WHERE WHAT IT READS IS OF BULK AT MOST 1048576: true; the input reads as it did. -/
def fnExactFracLessUptoRow : OpenClaim := { program := "ytbfjpolihoaafaa", sum := "486f161d1af326e2575762d58fe43fe5d0e28879c8ece98d816f5bc16971d06f", func := "loop.example/g00056/laws.FnExactFracLess", spec := "fnExactFracLess", apart := false, narrowed := true }
def FnExactFracLessUptoSaid : Prop := fnExactFracLessUptoRow.holds Try.pinned (OpenSpec.upto fnExactFracLessSpec)

/-- 'laws.FnExactTurn', WHERE WHAT IT READS IS OF BULK AT MOST 1048576: true; the input reads as it did. -/
def fnExactTurnUptoRow : OpenClaim := { program := "ytbfjpolihoaafaa", sum := "486f161d1af326e2575762d58fe43fe5d0e28879c8ece98d816f5bc16971d06f", func := "loop.example/g00056/laws.FnExactTurn", spec := "fnExactTurn", apart := false, narrowed := true }
def FnExactTurnUptoSaid : Prop := fnExactTurnUptoRow.holds Try.pinned (OpenSpec.upto fnExactTurnSpec)

/-- 'laws.FnExactFieldOK', WHERE WHAT IT READS IS OF BULK AT MOST 1048576: true; the input reads as it did. -/
def fnExactFieldOKUptoRow : OpenClaim := { program := "ytbfjpolihoaafaa", sum := "486f161d1af326e2575762d58fe43fe5d0e28879c8ece98d816f5bc16971d06f", func := "loop.example/g00056/laws.FnExactFieldOK", spec := "fnExactFieldOK", apart := false, narrowed := true }
def FnExactFieldOKUptoSaid : Prop := fnExactFieldOKUptoRow.holds Try.pinned (OpenSpec.upto fnExactFieldOKSpec)

/-- 'laws.FnKinds', WHERE WHAT IT READS IS OF BULK AT MOST 1048576: true; the input reads as it did. -/
def fnKindsUptoRow : OpenClaim := { program := "ytbfjpolihoaafaa", sum := "486f161d1af326e2575762d58fe43fe5d0e28879c8ece98d816f5bc16971d06f", func := "loop.example/g00056/laws.FnKinds", spec := "fnKinds", apart := false, narrowed := true }
def FnKindsUptoSaid : Prop := fnKindsUptoRow.holds Try.pinned (OpenSpec.upto fnKindsSpec)

/-- 'laws.FnExactRest', WHERE WHAT IT READS IS OF BULK AT MOST 1048576: true; the input reads as it did. -/
def fnExactRestUptoRow : OpenClaim := { program := "ytbfjpolihoaafaa", sum := "486f161d1af326e2575762d58fe43fe5d0e28879c8ece98d816f5bc16971d06f", func := "loop.example/g00056/laws.FnExactRest", spec := "fnExactRest", apart := false, narrowed := true }
def FnExactRestUptoSaid : Prop := fnExactRestUptoRow.holds Try.pinned (OpenSpec.upto fnExactRestSpec)

/-- 'laws.FnExactFracRound', WHERE WHAT IT READS IS OF BULK AT MOST 1048576: true; the input reads as it did. -/
def fnExactFracRoundUptoRow : OpenClaim := { program := "ytbfjpolihoaafaa", sum := "486f161d1af326e2575762d58fe43fe5d0e28879c8ece98d816f5bc16971d06f", func := "loop.example/g00056/laws.FnExactFracRound", spec := "fnExactFracRound", apart := false, narrowed := true }
def FnExactFracRoundUptoSaid : Prop := fnExactFracRoundUptoRow.holds Try.pinned (OpenSpec.upto fnExactFracRoundSpec)

end Rows
end Go.Proofs.Ytbfjpolihoaafaa
