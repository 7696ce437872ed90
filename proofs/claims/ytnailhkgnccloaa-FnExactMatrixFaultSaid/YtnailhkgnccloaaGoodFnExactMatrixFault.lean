/- What is known of the arguments of FnExactMatrixFault when they can be read. No condition. -/
import Derived.Test.YtnailhkgnccloaaPFnExactMatrixFaultx3
set_option linter.all false
namespace Go.Proofs.Ytnailhkgnccloaa.PFnExactMatrixFault
open Go.RowKit Go.Proofs.YtnailhkgnccloaaW.PrintWords Go.Proofs.YtnailhkgnccloaaW.PrintLast Go.Proofs.YtnailhkgnccloaaW.PrintMore
def good2 (x : Int) : Prop := (Lit.int .i64 x).wf = true
def good40 (x : List (Int)) : Prop := x.length ≤ 9223372036854775807 ∧ ∀ a ∈ x, good2 a
def laws_FnExactMatrixFault.Wants : Prop := ∀ (x0_0 : Int) (x0_1 : Int) (x0_2 : List (Int)), (good2 x0_0) → (good2 x0_1) → (good40 x0_2) → ∃ k, laws_FnExactMatrixFault.f k x0_0 x0_1 x0_2 = some true
end Go.Proofs.Ytnailhkgnccloaa.PFnExactMatrixFault
