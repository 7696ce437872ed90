/- What is known of the arguments of FnExactRangeReads when they can be read. No condition. -/
import Derived.Test.YtcpmlelejlmpdaaQFnExactRangeReadsx4
set_option linter.all false
namespace Go.Proofs.Ytcpmlelejlmpdaa.QFnExactRangeReads
open Go.RowKit Go.Proofs.YtcpmlelejlmpdaaW.PrintWords Go.Proofs.YtcpmlelejlmpdaaW.PrintLast Go.Proofs.YtcpmlelejlmpdaaW.PrintMore
def good2 (x : Int) : Prop := (Lit.int .i64 x).wf = true
def laws_FnExactRangeReads.Wants : Prop := ∀ (x0_0 : Int) (x0_1 : Int) (x0_2 : Int) (x1 : Int) (x2 : Int) (x3 : Int) (x4 : Int), (good2 x0_0) → (good2 x0_1) → (good2 x0_2) → (good2 x1) → (good2 x2) → (good2 x3) → (good2 x4) → ∃ k, laws_FnExactRangeReads.f k x0_0 x0_1 x0_2 x1 x2 x3 x4 = some true
end Go.Proofs.Ytcpmlelejlmpdaa.QFnExactRangeReads
