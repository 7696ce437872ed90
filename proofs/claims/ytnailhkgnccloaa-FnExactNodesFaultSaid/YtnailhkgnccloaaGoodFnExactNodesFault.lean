/- What is known of the arguments of FnExactNodesFault when they can be read. No condition. -/
import Derived.Test.YtnailhkgnccloaaPFnExactNodesFaultx2
set_option linter.all false
namespace Go.Proofs.Ytnailhkgnccloaa.PFnExactNodesFault
open Go.RowKit Go.Proofs.YtnailhkgnccloaaW.PrintWords Go.Proofs.YtnailhkgnccloaaW.PrintLast Go.Proofs.YtnailhkgnccloaaW.PrintMore
def good2 (x : Int) : Prop := (Lit.int .i64 x).wf = true
def good71 (x : S71) : Prop := good2 x.f0 ∧ good2 x.f1
def good29 (x : List (S71)) : Prop := x.length ≤ 9223372036854775807 ∧ ∀ a ∈ x, good71 a
def laws_FnExactNodesFault.Wants : Prop := ∀ (x0 : List (S71)), (good29 x0) → ∃ k, laws_FnExactNodesFault.f k x0 = some true
end Go.Proofs.Ytnailhkgnccloaa.PFnExactNodesFault
