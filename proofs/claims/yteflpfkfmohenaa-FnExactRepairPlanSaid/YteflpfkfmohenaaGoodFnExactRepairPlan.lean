/- What is known of the arguments of FnExactRepairPlan when they can be read. No condition. -/
import Derived.Test.YteflpfkfmohenaaQFnExactRepairPlanx13
set_option linter.all false
namespace Go.Proofs.Yteflpfkfmohenaa.QFnExactRepairPlan
open Go.RowKit Go.Proofs.YteflpfkfmohenaaW.PrintWords Go.Proofs.YteflpfkfmohenaaW.PrintLast Go.Proofs.YteflpfkfmohenaaW.PrintMore
def good2 (x : Int) : Prop := (Lit.int .i64 x).wf = true
def good4 (_ : Bool) : Prop := True
def good24 (x : List (Bool)) : Prop := x.length ≤ 9223372036854775807 ∧ ∀ a ∈ x, good4 a
def laws_FnExactRepairPlan.Wants : Prop := ∀ (x0_0 : Int) (x0_1 : Int) (x0_2 : Int) (x1 : List (Bool)) (x2 : Int), (good2 x0_0) → (good2 x0_1) → (good2 x0_2) → (good24 x1) → (good2 x2) → ∃ k, laws_FnExactRepairPlan.f k x0_0 x0_1 x0_2 x1 x2 = some true
end Go.Proofs.Yteflpfkfmohenaa.QFnExactRepairPlan
