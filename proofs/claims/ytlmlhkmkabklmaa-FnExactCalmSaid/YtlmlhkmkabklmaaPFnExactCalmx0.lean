/- Written for this claim by a program of this session: the functions that the law reaches, each with its contract. -/
import Derived.Test.YtlmlhkmkabklmaaProg
import Derived.Below
import Derived.Deep.Draws
import Derived.Deep.AppendLies
import Derived.Maps.AppendAt
import Derived.OwnWalk
import Derived.Laws.BytesArg
import Derived.Laws.MakeOwn
import Derived.Laws.OwnMore
import Derived.Deep.OwnRows
import Derived.Tactics
import Derived.Lib.ConvBytes
import Derived.Laws.Slices
import Derived.WalkKit
import Derived.KernelRfl
import Derived.RowKit3
import Derived.Deep.LoopGhost
import Derived.Deep.QuietTactic
import Derived.BigQuiet
import Derived.WideLaws
import Derived.Deep.DeepCutAuto
import Derived.Deep.CutBlock
import Derived.Deep.RegionHeld3
import Derived.Laws.Rows
import Derived.Lib.AppendStr
import Derived.ArgAppend
import Derived.Laws.IdiomCopy
import Derived.OrdersHeld
import Derived.Laws.BitsLemmas
import Derived.RowKit
import Derived.StillTailTactics
import Derived.Test.YtlmlhkmkabklmaaFlt
import Derived.Test.YtlmlhkmkabklmaaWWords
import Derived.Test.YtlmlhkmkabklmaaWLast
import Derived.Test.YtlmlhkmkabklmaaWTab
import Derived.Test.YtlmlhkmkabklmaaWFour
import Derived.Test.YtlmlhkmkabklmaaWQPut
import Derived.Test.YtlmlhkmkabklmaaWApart
import Derived.Test.YtlmlhkmkabklmaaWArr
import Derived.Test.YtlmlhkmkabklmaaWZeros
import Derived.Test.YtlmlhkmkabklmaaWFoot
import Derived.Test.YtlmlhkmkabklmaaWKept
import Derived.Test.YtlmlhkmkabklmaaWShare
import Derived.Test.YtlmlhkmkabklmaaWN
import Derived.Test.YtlmlhkmkabklmaaWFootNe
import Derived.Test.YtlmlhkmkabklmaaWAt
import Derived.Test.YtlmlhkmkabklmaaWEqStruct
import Derived.Test.YtlmlhkmkabklmaaWRepsOne
import Derived.Test.YtlmlhkmkabklmaaWInv
import Derived.Test.YtlmlhkmkabklmaaWInvWords
import Derived.Test.YtlmlhkmkabklmaaWGuard
import Derived.Test.YtlmlhkmkabklmaaWNEv
import Derived.Test.YtlmlhkmkabklmaaWMore
namespace Go.Proofs.Ytlmlhkmkabklmaa.PFnExactCalm
open Go.RowKit Go.Proofs.YtlmlhkmkabklmaaW.PrintWords Go.Proofs.YtlmlhkmkabklmaaW.PrintLast Go.Proofs.YtlmlhkmkabklmaaW.PrintMore
attribute [local go_sem] fEq_w fNe_w fLt_w fLe_w fGt_w fGe_w fOf_w fInt_w fConv_w fNeg_w fStore_w i64_w max2_int min2_int max_two min_two max_three min_three max_four min_four   -- for this text's walks alone
set_option linter.unusedVariables false
set_option linter.unusedSimpArgs false



def errW : Option Int → Value
  | none => .nilIface
  | some c => .iface 0 (.int .i64 c)
theorem errW_none : errW none = .nilIface := rfl
theorem errW_some (c : Int) : errW (some c) = .iface 0 (.int .i64 c) := rfl

theorem info23 : (Try.prog.info? 23).map (fun i => (i.zero, i.size, i.bytes)) = some (some (.float .f32 0), 1, 4) := by kernel_rfl
theorem info38 : (Try.prog.info? 38).map (fun i => (i.zero, i.size, i.bytes)) = some (some (.float .f64 0), 1, 8) := by kernel_rfl
-- the values' own types

end Go.Proofs.Ytlmlhkmkabklmaa.PFnExactCalm
