/- Written for this claim by a program of this session: the functions that the law reaches, each with its contract. -/
import Derived.Test.YthofhmhcackepaaDoorProg
import Derived.Below
import Derived.Deep.Draws
import Derived.Deep.AppendLies
import Derived.Maps.AppendAt
import Derived.OwnWalk
import Derived.Laws.BytesArg
import Derived.Laws.MakeOwn
import Derived.Laws.OwnMore
import Derived.Deep.OwnRows
import Derived.Tactics
import Derived.Lib.ConvBytes
import Derived.Laws.Slices
import Derived.WalkKit
import Derived.KernelRfl
import Derived.RowKit3
import Derived.Deep.LoopGhost
import Derived.Deep.QuietTactic
import Derived.BigQuiet
import Derived.WideLaws
import Derived.Deep.DeepCutAuto
import Derived.Deep.CutBlock
import Derived.Deep.RegionHeld3
import Derived.Laws.Rows
import Derived.Lib.AppendStr
import Derived.ArgAppend
import Derived.Laws.IdiomCopy
import Derived.OrdersHeld
import Derived.Laws.BitsLemmas
import Derived.RowKit
import Derived.StillTailTactics
import Derived.Test.YthofhmhcackepaaDoorShelf
import Derived.Lib.AppendIntMem
import Derived.Test.YthofhmhcackepaaDoorWWords
import Derived.Test.YthofhmhcackepaaDoorWLast
import Derived.Test.YthofhmhcackepaaDoorWTab
import Derived.Test.YthofhmhcackepaaDoorWFour
import Derived.Test.YthofhmhcackepaaDoorWQPut
import Derived.Test.YthofhmhcackepaaDoorWApart
import Derived.Test.YthofhmhcackepaaDoorWArr
import Derived.Test.YthofhmhcackepaaDoorWZeros
import Derived.Test.YthofhmhcackepaaDoorWFoot
import Derived.Test.YthofhmhcackepaaDoorWKept
import Derived.Test.YthofhmhcackepaaDoorWShare
import Derived.Test.YthofhmhcackepaaDoorWN
import Derived.Test.YthofhmhcackepaaDoorWFootNe
import Derived.Test.YthofhmhcackepaaDoorWAt
import Derived.Test.YthofhmhcackepaaDoorWEqStruct
import Derived.Test.YthofhmhcackepaaDoorWRepsOne
import Derived.Test.YthofhmhcackepaaDoorWInv
import Derived.Test.YthofhmhcackepaaDoorWInvWords
import Derived.Test.YthofhmhcackepaaDoorWGuard
import Derived.Test.YthofhmhcackepaaDoorWNEv
import Derived.Test.YthofhmhcackepaaDoorWMore
namespace Go.Proofs.YthofhmhcackepaaDoor.PFnExactFracText
open Go.RowKit Go.Proofs.YthofhmhcackepaaDoorW.PrintWords Go.Proofs.YthofhmhcackepaaDoorW.PrintLast Go.Proofs.YthofhmhcackepaaDoorW.PrintMore
attribute [local go_sem] max2_int min2_int max_two min_two max_three min_three max_four min_four   -- for this text's walks alone
set_option linter.unusedVariables false
set_option linter.unusedSimpArgs false



def errW : Option Int → Value
  | none => .nilIface
  | some c => .iface 0 (.int .i64 c)
theorem errW_none : errW none = .nilIface := rfl
theorem errW_some (c : Int) : errW (some c) = .iface 0 (.int .i64 c) := rfl

theorem info5 : (Tryd.prog.info? 5).map (fun i => (i.zero, i.size, i.bytes)) = some (some (.int .u8 0), 1, 1) := by kernel_rfl
-- the values' own types

end Go.Proofs.YthofhmhcackepaaDoor.PFnExactFracText
