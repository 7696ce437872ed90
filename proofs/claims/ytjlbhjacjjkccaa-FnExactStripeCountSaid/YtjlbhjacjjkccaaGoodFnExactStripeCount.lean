/- What is known of the arguments of FnExactStripeCount when they can be read. No condition. -/
import Derived.Test.YtjlbhjacjjkccaaPFnExactStripeCountx1
set_option linter.all false
namespace Go.Proofs.Ytjlbhjacjjkccaa.PFnExactStripeCount
open Go.RowKit Go.Proofs.YtjlbhjacjjkccaaW.PrintWords Go.Proofs.YtjlbhjacjjkccaaW.PrintLast Go.Proofs.YtjlbhjacjjkccaaW.PrintMore
def good2 (x : Int) : Prop := (Lit.int .i64 x).wf = true
def laws_FnExactStripeCount.Wants : Prop := ∀ (x0_0 : Int) (x0_1 : Int) (x0_2 : Int) (x1 : Int) (x2 : Int), (good2 x0_0) → (good2 x0_1) → (good2 x0_2) → (good2 x1) → (good2 x2) → ∃ k, laws_FnExactStripeCount.f k x0_0 x0_1 x0_2 x1 x2 = some true
end Go.Proofs.Ytjlbhjacjjkccaa.PFnExactStripeCount
