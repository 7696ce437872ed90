/- What is known of the arguments of FnExactCodeRow when they can be read. No condition. -/
import Derived.Test.YtcpmlelejlmpdaaQFnExactCodeRowx5
set_option linter.all false
namespace Go.Proofs.Ytcpmlelejlmpdaa.QFnExactCodeRow
open Go.RowKit Go.Proofs.YtcpmlelejlmpdaaW.PrintWords Go.Proofs.YtcpmlelejlmpdaaW.PrintLast Go.Proofs.YtcpmlelejlmpdaaW.PrintMore
def good2 (x : Int) : Prop := (Lit.int .i64 x).wf = true
def laws_FnExactCodeRow.Wants : Prop := ∀ (x0_0 : Int) (x0_1 : Int) (x0_2 : Int) (x1 : Int), (good2 x0_0) → (good2 x0_1) → (good2 x0_2) → (good2 x1) → ∃ k, laws_FnExactCodeRow.f k x0_0 x0_1 x0_2 x1 = some true
end Go.Proofs.Ytcpmlelejlmpdaa.QFnExactCodeRow
