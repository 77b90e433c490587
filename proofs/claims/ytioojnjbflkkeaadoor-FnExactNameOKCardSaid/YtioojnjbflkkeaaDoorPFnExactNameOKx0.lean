/- Written for this claim by a program of this session: the functions that the law reaches, each with its contract. -/
import Derived.Test.YtioojnjbflkkeaaDoorProg
import Derived.Below
import Derived.Deep.Draws
import Derived.Deep.AppendLies
import Derived.Maps.AppendAt
import Derived.OwnWalk
import Derived.Laws.BytesArg
import Derived.Laws.MakeOwn
import Derived.Laws.OwnMore
import Derived.Deep.OwnRows
import Derived.Tactics
import Derived.Lib.ConvBytes
import Derived.Laws.Slices
import Derived.WalkKit
import Derived.KernelRfl
import Derived.RowKit3
import Derived.Deep.LoopGhost
import Derived.Deep.QuietTactic
import Derived.BigQuiet
import Derived.WideLaws
import Derived.Deep.DeepCutAuto
import Derived.Deep.CutBlock
import Derived.Deep.RegionHeld3
import Derived.Laws.Rows
import Derived.Lib.AppendStr
import Derived.ArgAppend
import Derived.Laws.IdiomCopy
import Derived.OrdersHeld
import Derived.Laws.BitsLemmas
import Derived.RowKit
import Derived.StillTailTactics
import Derived.Test.YtioojnjbflkkeaaDoorShelf
import Derived.Test.YtioojnjbflkkeaaDoorWWords
import Derived.Test.YtioojnjbflkkeaaDoorWLast
import Derived.Test.YtioojnjbflkkeaaDoorWTab
import Derived.Test.YtioojnjbflkkeaaDoorWFour
import Derived.Test.YtioojnjbflkkeaaDoorWQPut
import Derived.Test.YtioojnjbflkkeaaDoorWApart
import Derived.Test.YtioojnjbflkkeaaDoorWArr
import Derived.Test.YtioojnjbflkkeaaDoorWZeros
import Derived.Test.YtioojnjbflkkeaaDoorWFoot
import Derived.Test.YtioojnjbflkkeaaDoorWKept
import Derived.Test.YtioojnjbflkkeaaDoorWShare
import Derived.Test.YtioojnjbflkkeaaDoorWN
import Derived.Test.YtioojnjbflkkeaaDoorWFootNe
import Derived.Test.YtioojnjbflkkeaaDoorWAt
import Derived.Test.YtioojnjbflkkeaaDoorWEqStruct
import Derived.Test.YtioojnjbflkkeaaDoorWRepsOne
import Derived.Test.YtioojnjbflkkeaaDoorWInv
import Derived.Test.YtioojnjbflkkeaaDoorWInvWords
import Derived.Test.YtioojnjbflkkeaaDoorWGuard
import Derived.Test.YtioojnjbflkkeaaDoorWNEv
import Derived.Test.YtioojnjbflkkeaaDoorWMore
namespace Go.Proofs.YtioojnjbflkkeaaDoor.PFnExactNameOK
open Go.RowKit Go.Proofs.YtioojnjbflkkeaaDoorW.PrintWords Go.Proofs.YtioojnjbflkkeaaDoorW.PrintLast Go.Proofs.YtioojnjbflkkeaaDoorW.PrintMore
attribute [local go_sem] max2_int min2_int max_two min_two max_three min_three max_four min_four   -- for this text's walks alone
set_option linter.unusedVariables false
set_option linter.unusedSimpArgs false



def errW : Option Int → Value
  | none => .nilIface
  | some c => .iface 0 (.int .i64 c)
theorem errW_none : errW none = .nilIface := rfl
theorem errW_some (c : Int) : errW (some c) = .iface 0 (.int .i64 c) := rfl

-- the values' own types

end Go.Proofs.YtioojnjbflkkeaaDoor.PFnExactNameOK
