/- What is known of the arguments of FnExactCodeFault when they can be read. No condition. -/
import Derived.Test.YtjlbhjacjjkccaaPFnExactCodeFaultx1
set_option linter.all false
namespace Go.Proofs.Ytjlbhjacjjkccaa.PFnExactCodeFault
open Go.RowKit Go.Proofs.YtjlbhjacjjkccaaW.PrintWords Go.Proofs.YtjlbhjacjjkccaaW.PrintLast Go.Proofs.YtjlbhjacjjkccaaW.PrintMore
def good2 (x : Int) : Prop := (Lit.int .i64 x).wf = true
def laws_FnExactCodeFault.Wants : Prop := ∀ (x0_0 : Int) (x0_1 : Int) (x0_2 : Int), (good2 x0_0) → (good2 x0_1) → (good2 x0_2) → laws_FnExactCodeFault.f x0_0 x0_1 x0_2 = some true
end Go.Proofs.Ytjlbhjacjjkccaa.PFnExactCodeFault
