/- What is known of the arguments of FnExactTableFault when they can be read. No condition. -/
import Derived.Test.YtflpkbegdmihdaaVFnExactTableFaultQFnExactTableFaultx9
set_option linter.all false
namespace Go.Proofs.Ytflpkbegdmihdaa.QFnExactTableFault
open Go.RowKit Go.Proofs.YtflpkbegdmihdaaW.PrintWords Go.Proofs.YtflpkbegdmihdaaW.PrintLast Go.Proofs.YtflpkbegdmihdaaW.PrintMore
def good9 (x : ByteArray) : Prop := x.size ≤ 9223372036854775807
def good4 (_ : Bool) : Prop := True
def good2 (x : Int) : Prop := (Lit.int .i64 x).wf = true
def good211 (x : S211) : Prop := good9 x.f0 ∧ good2 x.f1 ∧ good4 x.f2 ∧ good9 x.f3
def good43 (x : List (S211)) : Prop := x.length ≤ 9223372036854775807 ∧ ∀ a ∈ x, good211 a
def good45 (x : S45) : Prop := good43 x.f0
def good46 (x : List (S45)) : Prop := x.length ≤ 9223372036854775807 ∧ ∀ a ∈ x, good45 a
def laws_FnExactTableFault.Wants : Prop := ∀ (x0_0 : Int) (x0_1 : Int) (x0_2 : List (S211)) (x0_3 : List (S45)), (good2 x0_0) → (good2 x0_1) → (good43 x0_2) → (good46 x0_3) → ∃ k, laws_FnExactTableFault.f k x0_0 x0_1 x0_2 x0_3 = some true
end Go.Proofs.Ytflpkbegdmihdaa.QFnExactTableFault
