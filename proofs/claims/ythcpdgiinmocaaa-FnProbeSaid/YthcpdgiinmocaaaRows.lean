/-
  No cell of these rows narrows 'for every input' (looked for: loops, veiled, ifaces, maps, wideKeys, modest, calm, conditions, laid).
  DERIVED. THE GIVEN ROWS OF THIS SEAT. 7 by the template 'for every input the law returns true; each argument reads behind the call as it read before'; 0 by the template 'total and deterministic' (their statements: YthcpdgiinmocaaaTotals.lean).
  GIVEN WITH THE SEED: the statements are not yours to turn. If you find one false, say at which input.
  Laid BY PROGRAM, IN A SANDBOX (cutbox-rows.mjs): the forced cells as the released guide's own fill.sh prints them over the translation f7c64cac1bc07741… (all of the seat's roots in one cut). By AI agents, Wed Nov 11 2026. No macro, syntax, notation, axiom, sorry.
-/
import Derived.Test.YthcpdgiinmocaaaChecked
import GoSem.Claim
import GoSem.ClaimJoined
import GoSem.ClaimMapViews
import Derived.JoinedTies
import Derived.KernelRfl
namespace Go.Proofs.Ythcpdgiinmocaaa
/- THE CELL 'sum', in the pinned program and in every row, IS THE sha256 OF THE DUMP (.gsa) THAT YthcpdgiinmocaaaProg.lean LOADS. Nothing in Lean hashes anything: it is a label: what it is worth is what the hold of that sum in a sandbox is worth. -/
noncomputable def Try.pinned : Pinned := { name := "ythcpdgiinmocaaa", sum := "f7c64cac1bc0774181da71bd712b95790bb60e3c01262d345a27c1f096d36386", checked := Try.checked }
namespace Rows
def none {H : Type} : Left H := { results := [], args := [] }

/-- 'laws.FnControl': WHATEVER THE INPUT: true; the input reads as it did. -/
def fnControlSpec : ChangeSpec := { name := "fnControl", fn := fun _ => fun
  | [d] => { results := [.lit (.bool true)], args := [d] }
  | _ => none }
def fnControlRow : OpenClaim := { program := "ythcpdgiinmocaaa", sum := "f7c64cac1bc0774181da71bd712b95790bb60e3c01262d345a27c1f096d36386", func := "loop.example/g00056/laws.FnControl", spec := "fnControl", apart := false }
def FnControlSaid : Prop := fnControlRow.holds Try.pinned (OpenSpec.ofChange fnControlSpec)

/-- ITS FALSE NEIGHBOUR: 'it returns false'. Refute it at one input. -/
def fnControlWrong : ChangeSpec := { name := "fnControl", fn := fun _ => fun
  | [d] => { results := [.lit (.bool false)], args := [d] }
  | _ => none }
def FnControlWrongFalsely : Prop := fnControlRow.holds Try.pinned (OpenSpec.ofChange fnControlWrong)

/-- 'laws.FnExactProbing': WHATEVER THE INPUT: true; the input reads as it did. -/
def fnExactProbingSpec : ChangeSpec := { name := "fnExactProbing", fn := fun _ => fun
  | [d1, d2] => { results := [.lit (.bool true)], args := [d1, d2] }
  | _ => none }
def fnExactProbingRow : OpenClaim := { program := "ythcpdgiinmocaaa", sum := "f7c64cac1bc0774181da71bd712b95790bb60e3c01262d345a27c1f096d36386", func := "loop.example/g00056/laws.FnExactProbing", spec := "fnExactProbing", apart := false }
def FnExactProbingSaid : Prop := fnExactProbingRow.holds Try.pinned (OpenSpec.ofChange fnExactProbingSpec)

/-- ITS FALSE NEIGHBOUR: 'it returns false'. Refute it at one input. -/
def fnExactProbingWrong : ChangeSpec := { name := "fnExactProbing", fn := fun _ => fun
  | [d1, d2] => { results := [.lit (.bool false)], args := [d1, d2] }
  | _ => none }
def FnExactProbingWrongFalsely : Prop := fnExactProbingRow.holds Try.pinned (OpenSpec.ofChange fnExactProbingWrong)

/-- 'laws.FnProbe': WHATEVER THE INPUT: true; the input reads as it did. -/
def fnProbeSpec : ChangeSpec := { name := "fnProbe", fn := fun _ => fun
  | [d1, d2] => { results := [.lit (.bool true)], args := [d1, d2] }
  | _ => none }
def fnProbeRow : OpenClaim := { program := "ythcpdgiinmocaaa", sum := "f7c64cac1bc0774181da71bd712b95790bb60e3c01262d345a27c1f096d36386", func := "loop.example/g00056/laws.FnProbe", spec := "fnProbe", unfollowed := true, recurses := true, apart := false }
def FnProbeSaid : Prop := fnProbeRow.holds Try.pinned (OpenSpec.ofChange fnProbeSpec)

/-- ITS FALSE NEIGHBOUR: 'it returns false'. Refute it at one input. -/
def fnProbeWrong : ChangeSpec := { name := "fnProbe", fn := fun _ => fun
  | [d1, d2] => { results := [.lit (.bool false)], args := [d1, d2] }
  | _ => none }
def FnProbeWrongFalsely : Prop := fnProbeRow.holds Try.pinned (OpenSpec.ofChange fnProbeWrong)

/-- 'laws.FnExactNest': WHATEVER THE INPUT: true; the input reads as it did. -/
def fnExactNestSpec : ChangeSpec := { name := "fnExactNest", fn := fun _ => fun
  | [d1, d2] => { results := [.lit (.bool true)], args := [d1, d2] }
  | _ => none }
def fnExactNestRow : OpenClaim := { program := "ythcpdgiinmocaaa", sum := "f7c64cac1bc0774181da71bd712b95790bb60e3c01262d345a27c1f096d36386", func := "loop.example/g00056/laws.FnExactNest", spec := "fnExactNest", apart := false }
def FnExactNestSaid : Prop := fnExactNestRow.holds Try.pinned (OpenSpec.ofChange fnExactNestSpec)

/-- ITS FALSE NEIGHBOUR: 'it returns false'. Refute it at one input. -/
def fnExactNestWrong : ChangeSpec := { name := "fnExactNest", fn := fun _ => fun
  | [d1, d2] => { results := [.lit (.bool false)], args := [d1, d2] }
  | _ => none }
def FnExactNestWrongFalsely : Prop := fnExactNestRow.holds Try.pinned (OpenSpec.ofChange fnExactNestWrong)

/-- 'laws.FnExactNestBest': WHATEVER THE INPUT: true; the input reads as it did. -/
def fnExactNestBestSpec : ChangeSpec := { name := "fnExactNestBest", fn := fun _ => fun
  | [d1, d2] => { results := [.lit (.bool true)], args := [d1, d2] }
  | _ => none }
def fnExactNestBestRow : OpenClaim := { program := "ythcpdgiinmocaaa", sum := "f7c64cac1bc0774181da71bd712b95790bb60e3c01262d345a27c1f096d36386", func := "loop.example/g00056/laws.FnExactNestBest", spec := "fnExactNestBest", unfollowed := true, recurses := true, apart := false }
def FnExactNestBestSaid : Prop := fnExactNestBestRow.holds Try.pinned (OpenSpec.ofChange fnExactNestBestSpec)

/-- ITS FALSE NEIGHBOUR: 'it returns false'. Refute it at one input. -/
def fnExactNestBestWrong : ChangeSpec := { name := "fnExactNestBest", fn := fun _ => fun
  | [d1, d2] => { results := [.lit (.bool false)], args := [d1, d2] }
  | _ => none }
def FnExactNestBestWrongFalsely : Prop := fnExactNestBestRow.holds Try.pinned (OpenSpec.ofChange fnExactNestBestWrong)

/-- 'laws.FnExactPause': WHATEVER THE INPUT: true; the input reads as it did. -/
def fnExactPauseSpec : ChangeSpec := { name := "fnExactPause", fn := fun _ => fun
  | [d1, d2, d3, d4] => { results := [.lit (.bool true)], args := [d1, d2, d3, d4] }
  | _ => none }
def fnExactPauseRow : OpenClaim := { program := "ythcpdgiinmocaaa", sum := "f7c64cac1bc0774181da71bd712b95790bb60e3c01262d345a27c1f096d36386", func := "loop.example/g00056/laws.FnExactPause", spec := "fnExactPause", apart := false }
def FnExactPauseSaid : Prop := fnExactPauseRow.holds Try.pinned (OpenSpec.ofChange fnExactPauseSpec)

/-- ITS FALSE NEIGHBOUR: 'it returns false'. Refute it at one input. -/
def fnExactPauseWrong : ChangeSpec := { name := "fnExactPause", fn := fun _ => fun
  | [d1, d2, d3, d4] => { results := [.lit (.bool false)], args := [d1, d2, d3, d4] }
  | _ => none }
def FnExactPauseWrongFalsely : Prop := fnExactPauseRow.holds Try.pinned (OpenSpec.ofChange fnExactPauseWrong)

/-- 'laws.FnNest': WHATEVER THE INPUT: true; the input reads as it did. -/
def fnNestSpec : ChangeSpec := { name := "fnNest", fn := fun _ => fun
  | [d] => { results := [.lit (.bool true)], args := [d] }
  | _ => none }
def fnNestRow : OpenClaim := { program := "ythcpdgiinmocaaa", sum := "f7c64cac1bc0774181da71bd712b95790bb60e3c01262d345a27c1f096d36386", func := "loop.example/g00056/laws.FnNest", spec := "fnNest", unfollowed := true, recurses := true, apart := false }
def FnNestSaid : Prop := fnNestRow.holds Try.pinned (OpenSpec.ofChange fnNestSpec)

/-- ITS FALSE NEIGHBOUR: 'it returns false'. Refute it at one input. -/
def fnNestWrong : ChangeSpec := { name := "fnNest", fn := fun _ => fun
  | [d] => { results := [.lit (.bool false)], args := [d] }
  | _ => none }
def FnNestWrongFalsely : Prop := fnNestRow.holds Try.pinned (OpenSpec.ofChange fnNestWrong)

/- THE SECOND FORM. 'bulk': how many values and letters a reading holds, each counted each time it is reached (what is shared counts as often as it is met; a slice's spare places count too). A statement '..UptoSaid' is the law's where the arguments, and the package variables that the reading takes, are together of bulk at most 1048576: NARROWER than '..Said'. Prove '..Said' where nothing that the law and all that it calls make is longer than what came in: it says more and counts as full. Else prove '..UptoSaid'. A law counts once. -/
mutual
def uptoBulk {H : Type} : DataW H → Nat
  | .lit (.string bytes) => bytes.length + 1
  | .lit _ => 1
  | .nil => 1
  | .ptr d => uptoBulk d + 1
  | .slice elems spare => uptoBulkAll elems + uptoBulkAll spare + 1
  | .agg parts => uptoBulkAll parts + 1
  | .iface _ d => uptoBulk d + 1
  | .map entries => uptoBulkEntries entries + 1
  | .held _ => 1
def uptoBulkAll {H : Type} : List (DataW H) → Nat
  | [] => 0
  | d :: r => uptoBulk d + uptoBulkAll r
def uptoBulkEntries {H : Type} : List (Lit × DataW H) → Nat
  | [] => 0
  | x :: r => uptoBulkEntry x + uptoBulkEntries r
def uptoBulkEntry {H : Type} : Lit × DataW H → Nat
  | (.string bytes, d) => bytes.length + uptoBulk d + 1
  | (_, d) => uptoBulk d + 1
 end
def uptoSmall : (H : Type) → List (DataW H) → Bool := fun _ ds => decide (uptoBulkAll ds ≤ 1048576)
def OpenSpec.upto (s : _root_.Go.ChangeSpec) : _root_.Go.OpenSpec := { _root_.Go.OpenSpec.ofChange s with cond := some uptoSmall }

/-- 'laws.FnControl', WHERE WHAT IT READS IS OF BULK AT MOST 1048576: true; the input reads as it did. -/
def fnControlUptoRow : OpenClaim := { program := "ythcpdgiinmocaaa", sum := "f7c64cac1bc0774181da71bd712b95790bb60e3c01262d345a27c1f096d36386", func := "loop.example/g00056/laws.FnControl", spec := "fnControl", apart := false, narrowed := true }
def FnControlUptoSaid : Prop := fnControlUptoRow.holds Try.pinned (OpenSpec.upto fnControlSpec)

/-- 'laws.FnExactProbing', WHERE WHAT IT READS IS OF BULK AT MOST 1048576: true; the input reads as it did. -/
def fnExactProbingUptoRow : OpenClaim := { program := "ythcpdgiinmocaaa", sum := "f7c64cac1bc0774181da71bd712b95790bb60e3c01262d345a27c1f096d36386", func := "loop.example/g00056/laws.FnExactProbing", spec := "fnExactProbing", apart := false, narrowed := true }
def FnExactProbingUptoSaid : Prop := fnExactProbingUptoRow.holds Try.pinned (OpenSpec.upto fnExactProbingSpec)

/-- 'laws.FnProbe', WHERE WHAT IT READS IS OF BULK AT MOST 1048576: true; the input reads as it did. -/
def fnProbeUptoRow : OpenClaim := { program := "ythcpdgiinmocaaa", sum := "f7c64cac1bc0774181da71bd712b95790bb60e3c01262d345a27c1f096d36386", func := "loop.example/g00056/laws.FnProbe", spec := "fnProbe", unfollowed := true, recurses := true, apart := false, narrowed := true }
def FnProbeUptoSaid : Prop := fnProbeUptoRow.holds Try.pinned (OpenSpec.upto fnProbeSpec)

/-- 'laws.FnExactNest', WHERE WHAT IT READS IS OF BULK AT MOST 1048576: true; the input reads as it did. -/
def fnExactNestUptoRow : OpenClaim := { program := "ythcpdgiinmocaaa", sum := "f7c64cac1bc0774181da71bd712b95790bb60e3c01262d345a27c1f096d36386", func := "loop.example/g00056/laws.FnExactNest", spec := "fnExactNest", apart := false, narrowed := true }
def FnExactNestUptoSaid : Prop := fnExactNestUptoRow.holds Try.pinned (OpenSpec.upto fnExactNestSpec)

/-- 'laws.FnExactNestBest', WHERE WHAT IT READS IS OF BULK AT MOST 1048576: true; the input reads as it did. -/
def fnExactNestBestUptoRow : OpenClaim := { program := "ythcpdgiinmocaaa", sum := "f7c64cac1bc0774181da71bd712b95790bb60e3c01262d345a27c1f096d36386", func := "loop.example/g00056/laws.FnExactNestBest", spec := "fnExactNestBest", unfollowed := true, recurses := true, apart := false, narrowed := true }
def FnExactNestBestUptoSaid : Prop := fnExactNestBestUptoRow.holds Try.pinned (OpenSpec.upto fnExactNestBestSpec)

/-- 'laws.FnExactPause', WHERE WHAT IT READS IS OF BULK AT MOST 1048576: true; the input reads as it did. -/
def fnExactPauseUptoRow : OpenClaim := { program := "ythcpdgiinmocaaa", sum := "f7c64cac1bc0774181da71bd712b95790bb60e3c01262d345a27c1f096d36386", func := "loop.example/g00056/laws.FnExactPause", spec := "fnExactPause", apart := false, narrowed := true }
def FnExactPauseUptoSaid : Prop := fnExactPauseUptoRow.holds Try.pinned (OpenSpec.upto fnExactPauseSpec)

/-- 'laws.FnNest', WHERE WHAT IT READS IS OF BULK AT MOST 1048576: true; the input reads as it did. -/
def fnNestUptoRow : OpenClaim := { program := "ythcpdgiinmocaaa", sum := "f7c64cac1bc0774181da71bd712b95790bb60e3c01262d345a27c1f096d36386", func := "loop.example/g00056/laws.FnNest", spec := "fnNest", unfollowed := true, recurses := true, apart := false, narrowed := true }
def FnNestUptoSaid : Prop := fnNestUptoRow.holds Try.pinned (OpenSpec.upto fnNestSpec)

end Rows
end Go.Proofs.Ythcpdgiinmocaaa
