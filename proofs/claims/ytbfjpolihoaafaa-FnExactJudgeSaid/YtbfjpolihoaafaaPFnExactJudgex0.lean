/- Written for this claim by a program of this session: the functions that the law reaches, each with its contract. -/
import Derived.Test.YtbfjpolihoaafaaProg
import Derived.Below
import Derived.Deep.Draws
import Derived.Deep.AppendLies
import Derived.Maps.AppendAt
import Derived.OwnWalk
import Derived.Laws.BytesArg
import Derived.Laws.MakeOwn
import Derived.Laws.OwnMore
import Derived.Deep.OwnRows
import Derived.Tactics
import Derived.Lib.ConvBytes
import Derived.Laws.Slices
import Derived.WalkKit
import Derived.KernelRfl
import Derived.RowKit3
import Derived.Deep.LoopGhost
import Derived.Deep.QuietTactic
import Derived.BigQuiet
import Derived.WideLaws
import Derived.Deep.DeepCutAuto
import Derived.Deep.CutBlock
import Derived.Deep.RegionHeld3
import Derived.Laws.Rows
import Derived.Lib.AppendStr
import Derived.ArgAppend
import Derived.Laws.IdiomCopy
import Derived.OrdersHeld
import Derived.Laws.BitsLemmas
import Derived.RowKit
import Derived.StillTailTactics
import Derived.Test.YtbfjpolihoaafaaWWords
import Derived.Test.YtbfjpolihoaafaaWLast
import Derived.Test.YtbfjpolihoaafaaWTab
import Derived.Test.YtbfjpolihoaafaaWFour
import Derived.Test.YtbfjpolihoaafaaWQPut
import Derived.Test.YtbfjpolihoaafaaWApart
import Derived.Test.YtbfjpolihoaafaaWArr
import Derived.Test.YtbfjpolihoaafaaWZeros
import Derived.Test.YtbfjpolihoaafaaWFoot
import Derived.Test.YtbfjpolihoaafaaWKept
import Derived.Test.YtbfjpolihoaafaaWShare
import Derived.Test.YtbfjpolihoaafaaWN
import Derived.Test.YtbfjpolihoaafaaWFootNe
import Derived.Test.YtbfjpolihoaafaaWAt
import Derived.Test.YtbfjpolihoaafaaWEqStruct
import Derived.Test.YtbfjpolihoaafaaWRepsOne
import Derived.Test.YtbfjpolihoaafaaWInv
import Derived.Test.YtbfjpolihoaafaaWInvWords
import Derived.Test.YtbfjpolihoaafaaWGuard
import Derived.Test.YtbfjpolihoaafaaWNEv
import Derived.Test.YtbfjpolihoaafaaWMore
namespace Go.Proofs.Ytbfjpolihoaafaa.PFnExactJudge
open Go.RowKit Go.Proofs.YtbfjpolihoaafaaW.PrintWords Go.Proofs.YtbfjpolihoaafaaW.PrintLast Go.Proofs.YtbfjpolihoaafaaW.PrintMore
attribute [local go_sem] max2_int min2_int max_two min_two max_three min_three max_four min_four   -- for this text's walks alone
set_option linter.unusedVariables false
set_option linter.unusedSimpArgs false



def errW : Option Int → Value
  | none => .nilIface
  | some c => .iface 0 (.int .i64 c)
theorem errW_none : errW none = .nilIface := rfl
theorem errW_some (c : Int) : errW (some c) = .iface 0 (.int .i64 c) := rfl

theorem info3 : (Try.prog.info? 3).map (fun i => (i.zero, i.size, i.bytes)) = some (some (.int .i64 0), 1, 8) := by kernel_rfl
-- the values' own types

end Go.Proofs.Ytbfjpolihoaafaa.PFnExactJudge
