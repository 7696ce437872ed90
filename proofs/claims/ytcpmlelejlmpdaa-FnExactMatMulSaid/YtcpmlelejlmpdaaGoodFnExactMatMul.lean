/- What is known of the arguments of FnExactMatMul when they can be read. No condition. -/
import Derived.Test.YtcpmlelejlmpdaaQFnExactMatMulx7
set_option linter.all false
namespace Go.Proofs.Ytcpmlelejlmpdaa.QFnExactMatMul
open Go.RowKit Go.Proofs.YtcpmlelejlmpdaaW.PrintWords Go.Proofs.YtcpmlelejlmpdaaW.PrintLast Go.Proofs.YtcpmlelejlmpdaaW.PrintMore
def good2 (x : Int) : Prop := (Lit.int .i64 x).wf = true
def good24 (x : List (Int)) : Prop := x.length ≤ 9223372036854775807 ∧ ∀ a ∈ x, good2 a
def laws_FnExactMatMul.Wants : Prop := ∀ (x0_0 : Int) (x0_1 : Int) (x0_2 : List (Int)) (x1_0 : Int) (x1_1 : Int) (x1_2 : List (Int)), (good2 x0_0) → (good2 x0_1) → (good24 x0_2) → (good2 x1_0) → (good2 x1_1) → (good24 x1_2) → ∃ k, laws_FnExactMatMul.f k x0_0 x0_1 x0_2 x1_0 x1_1 x1_2 = some true
end Go.Proofs.Ytcpmlelejlmpdaa.QFnExactMatMul
