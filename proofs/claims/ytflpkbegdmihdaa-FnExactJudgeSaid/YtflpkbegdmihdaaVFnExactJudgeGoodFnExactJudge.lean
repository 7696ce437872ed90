/- What is known of the arguments of FnExactJudge when they can be read. No condition. -/
import Derived.Test.YtflpkbegdmihdaaVFnExactJudgeQFnExactJudgex15
set_option linter.all false
namespace Go.Proofs.Ytflpkbegdmihdaa.QFnExactJudge
open Go.RowKit Go.Proofs.YtflpkbegdmihdaaW.PrintWords Go.Proofs.YtflpkbegdmihdaaW.PrintLast Go.Proofs.YtflpkbegdmihdaaW.PrintMore
def good2 (x : Int) : Prop := (Lit.int .i64 x).wf = true
def good9 (x : ByteArray) : Prop := x.size ≤ 9223372036854775807
def good216 (x : S216) : Prop := good2 x.f0 ∧ good9 x.f1 ∧ good2 x.f2
def good126 (x : List (S216)) : Prop := x.length ≤ 9223372036854775807 ∧ ∀ a ∈ x, good216 a
def good39 (x : List (ByteArray)) : Prop := x.length ≤ 9223372036854775807 ∧ ∀ a ∈ x, good9 a
def good128 (x : S128) : Prop := good2 x.f0 ∧ good39 x.f1 ∧ good39 x.f2 ∧ good39 x.f3 ∧ good126 x.f4
def good60 (x : List (S128)) : Prop := x.length ≤ 9223372036854775807 ∧ ∀ a ∈ x, good128 a
def laws_FnExactJudge.Wants : Prop := ∀ (x0 : List (S128)) (x1_0 : ByteArray) (x1_1 : ByteArray) (x1_2 : ByteArray) (x1_3 : ByteArray) (x1_4 : Int), (good60 x0) → (good9 x1_0) → (good9 x1_1) → (good9 x1_2) → (good9 x1_3) → (good2 x1_4) → ∃ k, laws_FnExactJudge.f k x0 x1_0 x1_1 x1_2 x1_3 x1_4 = some true
end Go.Proofs.Ytflpkbegdmihdaa.QFnExactJudge
