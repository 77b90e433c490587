/- Written for this claim by a program of this session: the functions that the law reaches, each with its contract. -/
import Derived.Test.YtgmbbcnfcddamaaProg
import Derived.Below
import Derived.Deep.Draws
import Derived.Deep.AppendLies
import Derived.Maps.AppendAt
import Derived.OwnWalk
import Derived.Laws.BytesArg
import Derived.Laws.MakeOwn
import Derived.Laws.OwnMore
import Derived.Deep.OwnRows
import Derived.Tactics
import Derived.Lib.ConvBytes
import Derived.Laws.Slices
import Derived.WalkKit
import Derived.KernelRfl
import Derived.RowKit3
import Derived.Deep.LoopGhost
import Derived.Deep.QuietTactic
import Derived.BigQuiet
import Derived.WideLaws
import Derived.Deep.DeepCutAuto
import Derived.Deep.CutBlock
import Derived.Deep.RegionHeld3
import Derived.Laws.Rows
import Derived.Lib.AppendStr
import Derived.ArgAppend
import Derived.Laws.IdiomCopy
import Derived.OrdersHeld
import Derived.Laws.BitsLemmas
import Derived.RowKit
import Derived.StillTailTactics
import Derived.Test.YtgmbbcnfcddamaaWWords
import Derived.Test.YtgmbbcnfcddamaaWLast
import Derived.Test.YtgmbbcnfcddamaaWTab
import Derived.Test.YtgmbbcnfcddamaaWFour
import Derived.Test.YtgmbbcnfcddamaaWQPut
import Derived.Test.YtgmbbcnfcddamaaWApart
import Derived.Test.YtgmbbcnfcddamaaWArr
import Derived.Test.YtgmbbcnfcddamaaWZeros
import Derived.Test.YtgmbbcnfcddamaaWFoot
import Derived.Test.YtgmbbcnfcddamaaWKept
import Derived.Test.YtgmbbcnfcddamaaWShare
import Derived.Test.YtgmbbcnfcddamaaWN
import Derived.Test.YtgmbbcnfcddamaaWFootNe
import Derived.Test.YtgmbbcnfcddamaaWAt
import Derived.Test.YtgmbbcnfcddamaaWEqStruct
import Derived.Test.YtgmbbcnfcddamaaWRepsOne
import Derived.Test.YtgmbbcnfcddamaaWInv
import Derived.Test.YtgmbbcnfcddamaaWInvWords
import Derived.Test.YtgmbbcnfcddamaaWGuard
import Derived.Test.YtgmbbcnfcddamaaWNEv
import Derived.Test.YtgmbbcnfcddamaaWMore
namespace Go.Proofs.Ytgmbbcnfcddamaa.PFnExactFloor
open Go.RowKit Go.Proofs.YtgmbbcnfcddamaaW.PrintWords Go.Proofs.YtgmbbcnfcddamaaW.PrintLast Go.Proofs.YtgmbbcnfcddamaaW.PrintMore
attribute [local go_sem] i64_w max2_int min2_int max_two min_two max_three min_three max_four min_four   -- for this text's walks alone
set_option linter.unusedVariables false
set_option linter.unusedSimpArgs false



def errW : Option Int → Value
  | none => .nilIface
  | some c => .iface 0 (.int .i64 c)
theorem errW_none : errW none = .nilIface := rfl
theorem errW_some (c : Int) : errW (some c) = .iface 0 (.int .i64 c) := rfl

theorem info3 : (Try.prog.info? 3).map (fun i => (i.zero, i.size, i.bytes)) = some (some (.int .i64 0), 1, 8) := by kernel_rfl
-- the values' own types

end Go.Proofs.Ytgmbbcnfcddamaa.PFnExactFloor
