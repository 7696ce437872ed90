/- What is known of the arguments of FnExactWritePolicy when they can be read. No condition. -/
import Derived.Test.YtepnjhmdcaolkaaDoorQFnExactWritePolicyx11
set_option linter.all false
namespace Go.Proofs.YtepnjhmdcaolkaaDoor.QFnExactWritePolicy
open Go.RowKit Go.Proofs.YtepnjhmdcaolkaaDoorW.PrintWords Go.Proofs.YtepnjhmdcaolkaaDoorW.PrintLast Go.Proofs.YtepnjhmdcaolkaaDoorW.PrintMore
def good2 (x : Int) : Prop := (Lit.int .i64 x).wf = true
def good9 (x : ByteArray) : Prop := x.size ≤ 9223372036854775807
def good102 (x : S102) : Prop := good2 x.f0 ∧ good9 x.f1 ∧ good2 x.f2
def good52 (x : List (S102)) : Prop := x.length ≤ 9223372036854775807 ∧ ∀ a ∈ x, good102 a
def good51 (x : List (ByteArray)) : Prop := x.length ≤ 9223372036854775807 ∧ ∀ a ∈ x, good9 a
def good54 (x : S54) : Prop := good2 x.f0 ∧ good51 x.f1 ∧ good51 x.f2 ∧ good51 x.f3 ∧ good52 x.f4
def good33 (x : List (S54)) : Prop := x.length ≤ 9223372036854775807 ∧ ∀ a ∈ x, good54 a
def laws_FnExactWritePolicy.Wants : Prop := ∀ (x0 : List (S54)), (good33 x0) → ∃ k, laws_FnExactWritePolicy.f k x0 = some true
end Go.Proofs.YtepnjhmdcaolkaaDoor.QFnExactWritePolicy
