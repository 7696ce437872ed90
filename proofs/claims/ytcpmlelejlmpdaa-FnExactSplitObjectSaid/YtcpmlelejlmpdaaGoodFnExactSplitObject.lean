/- What is known of the arguments of FnExactSplitObject when they can be read. No condition. -/
import Derived.Test.YtcpmlelejlmpdaaQFnExactSplitObjectx11
set_option linter.all false
namespace Go.Proofs.Ytcpmlelejlmpdaa.QFnExactSplitObject
open Go.RowKit Go.Proofs.YtcpmlelejlmpdaaW.PrintWords Go.Proofs.YtcpmlelejlmpdaaW.PrintLast Go.Proofs.YtcpmlelejlmpdaaW.PrintMore
def good2 (x : Int) : Prop := (Lit.int .i64 x).wf = true
def good9 (x : ByteArray) : Prop := x.size ≤ 9223372036854775807
def laws_FnExactSplitObject.Wants : Prop := ∀ (x0_0 : Int) (x0_1 : Int) (x0_2 : Int) (x1 : Int) (x2 : ByteArray), (good2 x0_0) → (good2 x0_1) → (good2 x0_2) → (good2 x1) → (good9 x2) → ∃ k, laws_FnExactSplitObject.f k x0_0 x0_1 x0_2 x1 x2 = some true
end Go.Proofs.Ytcpmlelejlmpdaa.QFnExactSplitObject
