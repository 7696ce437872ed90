-- A text of this session, printed by a program of its own (wip/tools: xpatch.py, xprint.sh, mkq.py). No condition.
import Derived.Test.YtnailhkgnccloaaProg
import Derived.Test.YtnailhkgnccloaaCap
import Derived.Below
import Derived.Deep.Draws
import Derived.Deep.AppendLies
import Derived.Maps.AppendAt
import Derived.OwnWalk
import Derived.Laws.BytesArg
import Derived.Laws.MakeOwn
import Derived.Laws.OwnMore
import Derived.Deep.OwnRows
import Derived.Tactics
import Derived.Lib.ConvBytes
import Derived.Laws.Slices
import Derived.WalkKit
import Derived.KernelRfl
import Derived.RowKit3
import Derived.Deep.LoopGhost
import Derived.Deep.QuietTactic
import Derived.BigQuiet
import Derived.WideLaws
import Derived.Deep.DeepCutAuto
import Derived.Deep.CutBlock
import Derived.Deep.RegionHeld3
import Derived.Laws.Rows
import Derived.Lib.AppendStr
import Derived.ArgAppend
import Derived.Laws.IdiomCopy
import Derived.OrdersHeld
import Derived.Laws.BitsLemmas
import Derived.RowKit
import Derived.Test.YtnailhkgnccloaaWWords
import Derived.Test.YtnailhkgnccloaaWLast
import Derived.Test.YtnailhkgnccloaaWTab
import Derived.Test.YtnailhkgnccloaaWFour
import Derived.Test.YtnailhkgnccloaaWQPut
import Derived.Test.YtnailhkgnccloaaWApart
import Derived.Test.YtnailhkgnccloaaWArr
import Derived.Test.YtnailhkgnccloaaWZeros
import Derived.Test.YtnailhkgnccloaaWFoot
import Derived.Test.YtnailhkgnccloaaWKept
import Derived.Test.YtnailhkgnccloaaWShare
import Derived.Test.YtnailhkgnccloaaWN
import Derived.Test.YtnailhkgnccloaaWFootNe
import Derived.Test.YtnailhkgnccloaaWAt
import Derived.Test.YtnailhkgnccloaaWEqStruct
import Derived.Test.YtnailhkgnccloaaWRepsOne
import Derived.Test.YtnailhkgnccloaaWInv
import Derived.Test.YtnailhkgnccloaaWInvWords
import Derived.Test.YtnailhkgnccloaaWGuard
import Derived.Test.YtnailhkgnccloaaWNEv
import Derived.Test.YtnailhkgnccloaaWMore
namespace Go.Proofs.Ytnailhkgnccloaa.QFnExactSealObject
open Go.RowKit Go.Proofs.YtnailhkgnccloaaW.PrintWords Go.Proofs.YtnailhkgnccloaaW.PrintLast Go.Proofs.YtnailhkgnccloaaW.PrintMore
attribute [local go_sem] max2_int min2_int max_two min_two max_three min_three max_four min_four   -- for this text's walks alone
set_option linter.unusedVariables false
set_option linter.unusedSimpArgs false



def errW : Option Int → Value
  | none => .nilIface
  | some c => .iface 0 (.int .i64 c)
theorem errW_none : errW none = .nilIface := rfl
theorem errW_some (c : Int) : errW (some c) = .iface 0 (.int .i64 c) := rfl

theorem info5 : (Try.prog.info? 5).map (fun i => (i.zero, i.size, i.bytes)) = some (some (.int .u8 0), 1, 1) := by kernel_rfl
-- the values' own types

end Go.Proofs.Ytnailhkgnccloaa.QFnExactSealObject
