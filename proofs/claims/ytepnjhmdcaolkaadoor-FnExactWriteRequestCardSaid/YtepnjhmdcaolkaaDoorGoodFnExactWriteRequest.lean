/- What is known of the arguments of FnExactWriteRequest when they can be read. No condition. -/
import Derived.Test.YtepnjhmdcaolkaaDoorQFnExactWriteRequestx14
set_option linter.all false
namespace Go.Proofs.YtepnjhmdcaolkaaDoor.QFnExactWriteRequest
open Go.RowKit Go.Proofs.YtepnjhmdcaolkaaDoorW.PrintWords Go.Proofs.YtepnjhmdcaolkaaDoorW.PrintLast Go.Proofs.YtepnjhmdcaolkaaDoorW.PrintMore
def good9 (x : ByteArray) : Prop := x.size ≤ 9223372036854775807
def good71 (x : S71) : Prop := good9 x.f0 ∧ good9 x.f1
def good22 (x : List (S71)) : Prop := x.length ≤ 9223372036854775807 ∧ ∀ a ∈ x, good71 a
def laws_FnExactWriteRequest.Wants : Prop := ∀ (x0_0 : ByteArray) (x0_1 : ByteArray) (x0_2 : List (S71)) (x0_3 : List (S71)) (x0_4 : ByteArray), (good9 x0_0) → (good9 x0_1) → (good22 x0_2) → (good22 x0_3) → (good9 x0_4) → ∃ k, laws_FnExactWriteRequest.f k x0_0 x0_1 x0_2 x0_3 x0_4 = some true
end Go.Proofs.YtepnjhmdcaolkaaDoor.QFnExactWriteRequest
