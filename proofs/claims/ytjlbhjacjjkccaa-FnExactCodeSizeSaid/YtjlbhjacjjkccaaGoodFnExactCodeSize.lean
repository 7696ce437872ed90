/- What is known of the arguments of FnExactCodeSize when they can be read. No condition. -/
import Derived.Test.YtjlbhjacjjkccaaPFnExactCodeSizex1
set_option linter.all false
namespace Go.Proofs.Ytjlbhjacjjkccaa.PFnExactCodeSize
open Go.RowKit Go.Proofs.YtjlbhjacjjkccaaW.PrintWords Go.Proofs.YtjlbhjacjjkccaaW.PrintLast Go.Proofs.YtjlbhjacjjkccaaW.PrintMore
def good2 (x : Int) : Prop := (Lit.int .i64 x).wf = true
def laws_FnExactCodeSize.Wants : Prop := ∀ (x0_0 : Int) (x0_1 : Int) (x0_2 : Int), (good2 x0_0) → (good2 x0_1) → (good2 x0_2) → laws_FnExactCodeSize.f x0_0 x0_1 x0_2 = some true
end Go.Proofs.Ytjlbhjacjjkccaa.PFnExactCodeSize
