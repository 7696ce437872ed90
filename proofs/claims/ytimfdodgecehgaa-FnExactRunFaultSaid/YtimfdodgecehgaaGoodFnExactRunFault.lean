/- What is known of the arguments of FnExactRunFault when they can be read. No condition. -/
import Derived.Test.YtimfdodgecehgaaQFnExactRunFaultx5
set_option linter.all false
namespace Go.Proofs.Ytimfdodgecehgaa.QFnExactRunFault
open Go.RowKit Go.Proofs.YtimfdodgecehgaaW.PrintWords Go.Proofs.YtimfdodgecehgaaW.PrintLast Go.Proofs.YtimfdodgecehgaaW.PrintMore
def good9 (x : ByteArray) : Prop := x.size ≤ 9223372036854775807
def good4 (_ : Bool) : Prop := True
def good2 (x : Int) : Prop := (Lit.int .i64 x).wf = true
def good178 (x : S178) : Prop := good9 x.f0 ∧ good2 x.f1 ∧ good4 x.f2 ∧ good9 x.f3
def good41 (x : List (S178)) : Prop := x.length ≤ 9223372036854775807 ∧ ∀ a ∈ x, good178 a
def laws_FnExactRunFault.Wants : Prop := ∀ (x0_0 : List (S178)), (good41 x0_0) → ∃ k, laws_FnExactRunFault.f k x0_0 = some true
end Go.Proofs.Ytimfdodgecehgaa.QFnExactRunFault
