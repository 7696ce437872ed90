/- What is known of the arguments of FnExactPolicyFault when they can be read. No condition. -/
import Derived.Test.YtflpkbegdmihdaaQFnExactPolicyFaultx7
set_option linter.all false
namespace Go.Proofs.Ytflpkbegdmihdaa.QFnExactPolicyFault
open Go.RowKit Go.Proofs.YtflpkbegdmihdaaW.PrintWords Go.Proofs.YtflpkbegdmihdaaW.PrintLast Go.Proofs.YtflpkbegdmihdaaW.PrintMore
def good2 (x : Int) : Prop := (Lit.int .i64 x).wf = true
def good9 (x : ByteArray) : Prop := x.size ≤ 9223372036854775807
def good216 (x : S216) : Prop := good2 x.f0 ∧ good9 x.f1 ∧ good2 x.f2
def good126 (x : List (S216)) : Prop := x.length ≤ 9223372036854775807 ∧ ∀ a ∈ x, good216 a
def good39 (x : List (ByteArray)) : Prop := x.length ≤ 9223372036854775807 ∧ ∀ a ∈ x, good9 a
def good128 (x : S128) : Prop := good2 x.f0 ∧ good39 x.f1 ∧ good39 x.f2 ∧ good39 x.f3 ∧ good126 x.f4
def good60 (x : List (S128)) : Prop := x.length ≤ 9223372036854775807 ∧ ∀ a ∈ x, good128 a
def laws_FnExactPolicyFault.Wants : Prop := ∀ (x0 : List (S128)), (good60 x0) → ∃ k, laws_FnExactPolicyFault.f k x0 = some true
end Go.Proofs.Ytflpkbegdmihdaa.QFnExactPolicyFault
