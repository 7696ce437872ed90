/- What is known of the arguments of FnExactDiskScore when they can be read. No condition. -/
import Derived.Test.YtimfdodgecehgaaQFnExactDiskScorex3
set_option linter.all false
namespace Go.Proofs.Ytimfdodgecehgaa.QFnExactDiskScore
open Go.RowKit Go.Proofs.YtimfdodgecehgaaW.PrintWords Go.Proofs.YtimfdodgecehgaaW.PrintLast Go.Proofs.YtimfdodgecehgaaW.PrintMore
def good2 (x : Int) : Prop := (Lit.int .i64 x).wf = true
def good123 (x : S123) : Prop := good2 x.f0 ∧ good2 x.f1
def good34 (x : List (S123)) : Prop := x.length ≤ 9223372036854775807 ∧ ∀ a ∈ x, good123 a
def good9 (x : ByteArray) : Prop := x.size ≤ 9223372036854775807
def laws_FnExactDiskScore.Wants : Prop := ∀ (x0 : List (S123)) (x1 : ByteArray) (x2 : Int), (good34 x0) → (good9 x1) → (good2 x2) → ∃ k, laws_FnExactDiskScore.f k x0 x1 x2 = some true
end Go.Proofs.Ytimfdodgecehgaa.QFnExactDiskScore
