/- What is known of the arguments of FnExactEncodeShards when they can be read. No condition. -/
import Derived.Test.YtcpmlelejlmpdaaQFnExactEncodeShardsx9
set_option linter.all false
namespace Go.Proofs.Ytcpmlelejlmpdaa.QFnExactEncodeShards
open Go.RowKit Go.Proofs.YtcpmlelejlmpdaaW.PrintWords Go.Proofs.YtcpmlelejlmpdaaW.PrintLast Go.Proofs.YtcpmlelejlmpdaaW.PrintMore
def good2 (x : Int) : Prop := (Lit.int .i64 x).wf = true
def good9 (x : ByteArray) : Prop := x.size ≤ 9223372036854775807
def good44 (x : List (ByteArray)) : Prop := x.length ≤ 9223372036854775807 ∧ ∀ a ∈ x, good9 a
def laws_FnExactEncodeShards.Wants : Prop := ∀ (x0_0 : Int) (x0_1 : Int) (x0_2 : Int) (x1 : List (ByteArray)), (good2 x0_0) → (good2 x0_1) → (good2 x0_2) → (good44 x1) → ∃ k, laws_FnExactEncodeShards.f k x0_0 x0_1 x0_2 x1 = some true
end Go.Proofs.Ytcpmlelejlmpdaa.QFnExactEncodeShards
