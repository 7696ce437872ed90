/- What is known of the arguments of FnExactBucketFault when they can be read. No condition. -/
import Derived.Test.YtimfdodgecehgaaQFnExactBucketFaultx8
set_option linter.all false
namespace Go.Proofs.Ytimfdodgecehgaa.QFnExactBucketFault
open Go.RowKit Go.Proofs.YtimfdodgecehgaaW.PrintWords Go.Proofs.YtimfdodgecehgaaW.PrintLast Go.Proofs.YtimfdodgecehgaaW.PrintMore
def good4 (_ : Bool) : Prop := True
def good2 (x : Int) : Prop := (Lit.int .i64 x).wf = true
def good9 (x : ByteArray) : Prop := x.size ≤ 9223372036854775807
def good203 (x : S203) : Prop := good9 x.f0 ∧ good2 x.f1 ∧ good4 x.f2 ∧ good9 x.f3 ∧ good2 x.f4 ∧ good2 x.f5 ∧ good4 x.f6
def good77 (x : List (S203)) : Prop := x.length ≤ 9223372036854775807 ∧ ∀ a ∈ x, good203 a
def good201 (x : S201) : Prop := good2 x.f0 ∧ good9 x.f1 ∧ good2 x.f2
def good76 (x : List (S201)) : Prop := x.length ≤ 9223372036854775807 ∧ ∀ a ∈ x, good201 a
def laws_FnExactBucketFault.Wants : Prop := ∀ (x0_0 : Int) (x0_1 : Bool) (x0_2 : Int) (x0_3 : List (S201)) (x0_4 : List (S203)), (good2 x0_0) → (good2 x0_2) → (good76 x0_3) → (good77 x0_4) → ∃ k, laws_FnExactBucketFault.f k x0_0 x0_1 x0_2 x0_3 x0_4 = some true
end Go.Proofs.Ytimfdodgecehgaa.QFnExactBucketFault
