-- A text of this session, printed by a program of its own (wip/tools: xpatch.py, xprint.sh, mkq.py). No condition.
import Derived.Test.YtcpmlelejlmpdaaProg
import Derived.Test.YtcpmlelejlmpdaaCap
import Derived.Laws.CopyOwn
import Derived.Below
import Derived.Deep.Draws
import Derived.Deep.AppendLies
import Derived.Maps.AppendAt
import Derived.OwnWalk
import Derived.Laws.BytesArg
import Derived.Laws.MakeOwn
import Derived.Laws.OwnMore
import Derived.Deep.OwnRows
import Derived.Tactics
import Derived.Lib.ConvBytes
import Derived.Laws.Slices
import Derived.WalkKit
import Derived.KernelRfl
import Derived.RowKit3
import Derived.Deep.LoopGhost
import Derived.Deep.QuietTactic
import Derived.BigQuiet
import Derived.WideLaws
import Derived.Deep.DeepCutAuto
import Derived.Deep.CutBlock
import Derived.Deep.RegionHeld3
import Derived.Laws.Rows
import Derived.Lib.AppendStr
import Derived.ArgAppend
import Derived.Laws.IdiomCopy
import Derived.OrdersHeld
import Derived.Laws.BitsLemmas
import Derived.RowKit
import Derived.Test.YtcpmlelejlmpdaaWWords
import Derived.Test.YtcpmlelejlmpdaaWLast
import Derived.Test.YtcpmlelejlmpdaaWTab
import Derived.Test.YtcpmlelejlmpdaaWFour
import Derived.Test.YtcpmlelejlmpdaaWQPut
import Derived.Test.YtcpmlelejlmpdaaWApart
import Derived.Test.YtcpmlelejlmpdaaWArr
import Derived.Test.YtcpmlelejlmpdaaWZeros
import Derived.Test.YtcpmlelejlmpdaaWFoot
import Derived.Test.YtcpmlelejlmpdaaWKept
import Derived.Test.YtcpmlelejlmpdaaWShare
import Derived.Test.YtcpmlelejlmpdaaWN
import Derived.Test.YtcpmlelejlmpdaaWFootNe
import Derived.Test.YtcpmlelejlmpdaaWAt
import Derived.Test.YtcpmlelejlmpdaaWEqStruct
import Derived.Test.YtcpmlelejlmpdaaWRepsOne
import Derived.Test.YtcpmlelejlmpdaaWInv
import Derived.Test.YtcpmlelejlmpdaaWInvWords
import Derived.Test.YtcpmlelejlmpdaaWGuard
import Derived.Test.YtcpmlelejlmpdaaWNEv
import Derived.Test.YtcpmlelejlmpdaaWMore
namespace Go.Proofs.Ytcpmlelejlmpdaa.QFnCauchy
open Go.RowKit Go.Proofs.YtcpmlelejlmpdaaW.PrintWords Go.Proofs.YtcpmlelejlmpdaaW.PrintLast Go.Proofs.YtcpmlelejlmpdaaW.PrintMore
attribute [local go_sem] max2_int min2_int max_two min_two max_three min_three max_four min_four   -- for this text's walks alone
set_option linter.unusedVariables false
set_option linter.unusedSimpArgs false



def errW : Option Int → Value
  | none => .nilIface
  | some c => .iface 0 (.int .i64 c)
theorem errW_none : errW none = .nilIface := rfl
theorem errW_some (c : Int) : errW (some c) = .iface 0 (.int .i64 c) := rfl

theorem info2 : (Try.prog.info? 2).map (fun i => (i.zero, i.size, i.bytes)) = some (some (.int .i64 0), 1, 8) := by kernel_rfl
-- the values' own types

end Go.Proofs.Ytcpmlelejlmpdaa.QFnCauchy
