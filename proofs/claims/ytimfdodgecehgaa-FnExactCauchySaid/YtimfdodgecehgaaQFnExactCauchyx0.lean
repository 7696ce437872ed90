-- A text of this session, printed by a program of its own (wip/tools: xpatch.py, xprint.sh, mkq.py). No condition.
import Derived.Test.YtimfdodgecehgaaProg
import Derived.Test.YtimfdodgecehgaaCap
import Derived.Below
import Derived.Deep.Draws
import Derived.Deep.AppendLies
import Derived.Maps.AppendAt
import Derived.OwnWalk
import Derived.Laws.BytesArg
import Derived.Laws.MakeOwn
import Derived.Laws.OwnMore
import Derived.Deep.OwnRows
import Derived.Tactics
import Derived.Lib.ConvBytes
import Derived.Laws.Slices
import Derived.WalkKit
import Derived.KernelRfl
import Derived.RowKit3
import Derived.Deep.LoopGhost
import Derived.Deep.QuietTactic
import Derived.BigQuiet
import Derived.WideLaws
import Derived.Deep.DeepCutAuto
import Derived.Deep.CutBlock
import Derived.Deep.RegionHeld3
import Derived.Laws.Rows
import Derived.Lib.AppendStr
import Derived.ArgAppend
import Derived.Laws.IdiomCopy
import Derived.OrdersHeld
import Derived.Laws.BitsLemmas
import Derived.RowKit
import Derived.Test.YtimfdodgecehgaaWWords
import Derived.Test.YtimfdodgecehgaaWLast
import Derived.Test.YtimfdodgecehgaaWTab
import Derived.Test.YtimfdodgecehgaaWFour
import Derived.Test.YtimfdodgecehgaaWQPut
import Derived.Test.YtimfdodgecehgaaWApart
import Derived.Test.YtimfdodgecehgaaWArr
import Derived.Test.YtimfdodgecehgaaWZeros
import Derived.Test.YtimfdodgecehgaaWFoot
import Derived.Test.YtimfdodgecehgaaWKept
import Derived.Test.YtimfdodgecehgaaWShare
import Derived.Test.YtimfdodgecehgaaWN
import Derived.Test.YtimfdodgecehgaaWFootNe
import Derived.Test.YtimfdodgecehgaaWAt
import Derived.Test.YtimfdodgecehgaaWEqStruct
import Derived.Test.YtimfdodgecehgaaWRepsOne
import Derived.Test.YtimfdodgecehgaaWInv
import Derived.Test.YtimfdodgecehgaaWInvWords
import Derived.Test.YtimfdodgecehgaaWGuard
import Derived.Test.YtimfdodgecehgaaWNEv
import Derived.Test.YtimfdodgecehgaaWMore
namespace Go.Proofs.Ytimfdodgecehgaa.QFnExactCauchy
open Go.RowKit Go.Proofs.YtimfdodgecehgaaW.PrintWords Go.Proofs.YtimfdodgecehgaaW.PrintLast Go.Proofs.YtimfdodgecehgaaW.PrintMore
attribute [local go_sem] max2_int min2_int max_two min_two max_three min_three max_four min_four   -- for this text's walks alone
set_option linter.unusedVariables false
set_option linter.unusedSimpArgs false



def errW : Option Int → Value
  | none => .nilIface
  | some c => .iface 0 (.int .i64 c)
theorem errW_none : errW none = .nilIface := rfl
theorem errW_some (c : Int) : errW (some c) = .iface 0 (.int .i64 c) := rfl

theorem info2 : (Try.prog.info? 2).map (fun i => (i.zero, i.size, i.bytes)) = some (some (.int .i64 0), 1, 8) := by kernel_rfl
-- the values' own types

end Go.Proofs.Ytimfdodgecehgaa.QFnExactCauchy
