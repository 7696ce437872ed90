/- What is known of the arguments of FnExactMergeRuns when they can be read. No condition. -/
import Derived.Test.YtjjccaepbfijeaaQFnExactMergeRunsx13
set_option linter.all false
namespace Go.Proofs.Ytjjccaepbfijeaa.QFnExactMergeRuns
open Go.RowKit Go.Proofs.YtjjccaepbfijeaaW.PrintWords Go.Proofs.YtjjccaepbfijeaaW.PrintLast Go.Proofs.YtjjccaepbfijeaaW.PrintMore
def good9 (x : ByteArray) : Prop := x.size ≤ 9223372036854775807
def good4 (_ : Bool) : Prop := True
def good2 (x : Int) : Prop := (Lit.int .i64 x).wf = true
def good66 (x : S66) : Prop := good9 x.f0 ∧ good2 x.f1 ∧ good4 x.f2 ∧ good9 x.f3
def good36 (x : List (S66)) : Prop := x.length ≤ 9223372036854775807 ∧ ∀ a ∈ x, good66 a
def good38 (x : S38) : Prop := good36 x.f0
def good22 (x : List (S38)) : Prop := x.length ≤ 9223372036854775807 ∧ ∀ a ∈ x, good38 a
def laws_FnExactMergeRuns.Wants : Prop := ∀ (x0 : List (S38)) (x1 : Int), (good22 x0) → (good2 x1) → ∃ k, laws_FnExactMergeRuns.f k x0 x1 = some true
end Go.Proofs.Ytjjccaepbfijeaa.QFnExactMergeRuns
