/-
  No cell of these rows narrows 'for every input' (looked for: loops, veiled, ifaces, maps, wideKeys, modest, calm, conditions, laid).
  DERIVED. THE GIVEN ROWS OF THIS SEAT. 8 by the template 'for every input the law returns true; each argument reads behind the call as it read before'; 0 by the template 'total and deterministic' (their statements: YtcpmlelejlmpdaaTotals.lean).
  GIVEN WITH THE SEED: the statements are not yours to turn. If you find one false, say at which input.
  Laid BY PROGRAM, IN A SANDBOX (cutbox-rows.mjs): the forced cells as the released guide's own fill.sh prints them over the translation 78281deb804f3baa… (all of the seat's roots in one cut). By AI agents, Wed Nov 11 2026. No macro, syntax, notation, axiom, sorry.
-/
import Derived.Test.YtcpmlelejlmpdaaChecked
import GoSem.Claim
import GoSem.ClaimJoined
import GoSem.ClaimMapViews
import Derived.JoinedTies
import Derived.KernelRfl
namespace Go.Proofs.Ytcpmlelejlmpdaa
/- THE CELL 'sum', in the pinned program and in every row, IS THE sha256 OF THE DUMP (.gsa) THAT YtcpmlelejlmpdaaProg.lean LOADS. Nothing in Lean hashes anything: it is a label: what it is worth is what the hold of that sum in a sandbox is worth. -/
noncomputable def Try.pinned : Pinned := { name := "ytcpmlelejlmpdaa", sum := "78281deb804f3baa58e71ea0b7cceccb9360b7f0d66e38bc2d0434cc507c631f", checked := Try.checked }
namespace Rows
def none {H : Type} : Left H := { results := [], args := [] }

/-- 'laws.FnExactCodeRow': WHATEVER THE INPUT: true; the input reads as it did. -/
def fnExactCodeRowSpec : ChangeSpec := { name := "fnExactCodeRow", fn := fun _ => fun
  | [d1, d2] => { results := [.lit (.bool true)], args := [d1, d2] }
  | _ => none }
def fnExactCodeRowRow : OpenClaim := { program := "ytcpmlelejlmpdaa", sum := "78281deb804f3baa58e71ea0b7cceccb9360b7f0d66e38bc2d0434cc507c631f", func := "loop.example/g00020/laws.FnExactCodeRow", spec := "fnExactCodeRow", apart := false }
def FnExactCodeRowSaid : Prop := fnExactCodeRowRow.holds Try.pinned (OpenSpec.ofChange fnExactCodeRowSpec)

/-- ITS FALSE NEIGHBOUR: 'it returns false'. Refute it at one input. -/
def fnExactCodeRowWrong : ChangeSpec := { name := "fnExactCodeRow", fn := fun _ => fun
  | [d1, d2] => { results := [.lit (.bool false)], args := [d1, d2] }
  | _ => none }
def FnExactCodeRowWrongFalsely : Prop := fnExactCodeRowRow.holds Try.pinned (OpenSpec.ofChange fnExactCodeRowWrong)

/-- 'laws.FnExactMatMul': WHATEVER THE INPUT: true; the input reads as it did. -/
def fnExactMatMulSpec : ChangeSpec := { name := "fnExactMatMul", fn := fun _ => fun
  | [d1, d2] => { results := [.lit (.bool true)], args := [d1, d2] }
  | _ => none }
def fnExactMatMulRow : OpenClaim := { program := "ytcpmlelejlmpdaa", sum := "78281deb804f3baa58e71ea0b7cceccb9360b7f0d66e38bc2d0434cc507c631f", func := "loop.example/g00020/laws.FnExactMatMul", spec := "fnExactMatMul", apart := false }
def FnExactMatMulSaid : Prop := fnExactMatMulRow.holds Try.pinned (OpenSpec.ofChange fnExactMatMulSpec)

/-- ITS FALSE NEIGHBOUR: 'it returns false'. Refute it at one input. -/
def fnExactMatMulWrong : ChangeSpec := { name := "fnExactMatMul", fn := fun _ => fun
  | [d1, d2] => { results := [.lit (.bool false)], args := [d1, d2] }
  | _ => none }
def FnExactMatMulWrongFalsely : Prop := fnExactMatMulRow.holds Try.pinned (OpenSpec.ofChange fnExactMatMulWrong)

/-- 'laws.FnExactEncodeShards': WHATEVER THE INPUT: true; the input reads as it did. -/
def fnExactEncodeShardsSpec : ChangeSpec := { name := "fnExactEncodeShards", fn := fun _ => fun
  | [d1, d2] => { results := [.lit (.bool true)], args := [d1, d2] }
  | _ => none }
def fnExactEncodeShardsRow : OpenClaim := { program := "ytcpmlelejlmpdaa", sum := "78281deb804f3baa58e71ea0b7cceccb9360b7f0d66e38bc2d0434cc507c631f", func := "loop.example/g00020/laws.FnExactEncodeShards", spec := "fnExactEncodeShards", apart := false }
def FnExactEncodeShardsSaid : Prop := fnExactEncodeShardsRow.holds Try.pinned (OpenSpec.ofChange fnExactEncodeShardsSpec)

/-- ITS FALSE NEIGHBOUR: 'it returns false'. Refute it at one input. -/
def fnExactEncodeShardsWrong : ChangeSpec := { name := "fnExactEncodeShards", fn := fun _ => fun
  | [d1, d2] => { results := [.lit (.bool false)], args := [d1, d2] }
  | _ => none }
def FnExactEncodeShardsWrongFalsely : Prop := fnExactEncodeShardsRow.holds Try.pinned (OpenSpec.ofChange fnExactEncodeShardsWrong)

/-- 'laws.FnExactRangeReads': WHATEVER THE INPUT: true; the input reads as it did. -/
def fnExactRangeReadsSpec : ChangeSpec := { name := "fnExactRangeReads", fn := fun _ => fun
  | [d1, d2, d3, d4, d5] => { results := [.lit (.bool true)], args := [d1, d2, d3, d4, d5] }
  | _ => none }
def fnExactRangeReadsRow : OpenClaim := { program := "ytcpmlelejlmpdaa", sum := "78281deb804f3baa58e71ea0b7cceccb9360b7f0d66e38bc2d0434cc507c631f", func := "loop.example/g00020/laws.FnExactRangeReads", spec := "fnExactRangeReads", unfollowed := true, recurses := true, apart := false }
def FnExactRangeReadsSaid : Prop := fnExactRangeReadsRow.holds Try.pinned (OpenSpec.ofChange fnExactRangeReadsSpec)

/-- ITS FALSE NEIGHBOUR: 'it returns false'. Refute it at one input. -/
def fnExactRangeReadsWrong : ChangeSpec := { name := "fnExactRangeReads", fn := fun _ => fun
  | [d1, d2, d3, d4, d5] => { results := [.lit (.bool false)], args := [d1, d2, d3, d4, d5] }
  | _ => none }
def FnExactRangeReadsWrongFalsely : Prop := fnExactRangeReadsRow.holds Try.pinned (OpenSpec.ofChange fnExactRangeReadsWrong)

/-- 'laws.FnExactSplitObject': WHATEVER THE INPUT: true; the input reads as it did. -/
def fnExactSplitObjectSpec : ChangeSpec := { name := "fnExactSplitObject", fn := fun _ => fun
  | [d1, d2, d3] => { results := [.lit (.bool true)], args := [d1, d2, d3] }
  | _ => none }
def fnExactSplitObjectRow : OpenClaim := { program := "ytcpmlelejlmpdaa", sum := "78281deb804f3baa58e71ea0b7cceccb9360b7f0d66e38bc2d0434cc507c631f", func := "loop.example/g00020/laws.FnExactSplitObject", spec := "fnExactSplitObject", apart := false }
def FnExactSplitObjectSaid : Prop := fnExactSplitObjectRow.holds Try.pinned (OpenSpec.ofChange fnExactSplitObjectSpec)

/-- ITS FALSE NEIGHBOUR: 'it returns false'. Refute it at one input. -/
def fnExactSplitObjectWrong : ChangeSpec := { name := "fnExactSplitObject", fn := fun _ => fun
  | [d1, d2, d3] => { results := [.lit (.bool false)], args := [d1, d2, d3] }
  | _ => none }
def FnExactSplitObjectWrongFalsely : Prop := fnExactSplitObjectRow.holds Try.pinned (OpenSpec.ofChange fnExactSplitObjectWrong)

/-- 'laws.FnExactRepairPlan': WHATEVER THE INPUT: true; the input reads as it did. -/
def fnExactRepairPlanSpec : ChangeSpec := { name := "fnExactRepairPlan", fn := fun _ => fun
  | [d1, d2, d3] => { results := [.lit (.bool true)], args := [d1, d2, d3] }
  | _ => none }
def fnExactRepairPlanRow : OpenClaim := { program := "ytcpmlelejlmpdaa", sum := "78281deb804f3baa58e71ea0b7cceccb9360b7f0d66e38bc2d0434cc507c631f", func := "loop.example/g00020/laws.FnExactRepairPlan", spec := "fnExactRepairPlan", apart := false }
def FnExactRepairPlanSaid : Prop := fnExactRepairPlanRow.holds Try.pinned (OpenSpec.ofChange fnExactRepairPlanSpec)

/-- ITS FALSE NEIGHBOUR: 'it returns false'. Refute it at one input. -/
def fnExactRepairPlanWrong : ChangeSpec := { name := "fnExactRepairPlan", fn := fun _ => fun
  | [d1, d2, d3] => { results := [.lit (.bool false)], args := [d1, d2, d3] }
  | _ => none }
def FnExactRepairPlanWrongFalsely : Prop := fnExactRepairPlanRow.holds Try.pinned (OpenSpec.ofChange fnExactRepairPlanWrong)

/-- 'laws.FnRanges': WHATEVER THE INPUT: true; the input reads as it did. -/
def fnRangesSpec : ChangeSpec := { name := "fnRanges", fn := fun _ => fun
  | [d1, d2] => { results := [.lit (.bool true)], args := [d1, d2] }
  | _ => none }
def fnRangesRow : OpenClaim := { program := "ytcpmlelejlmpdaa", sum := "78281deb804f3baa58e71ea0b7cceccb9360b7f0d66e38bc2d0434cc507c631f", func := "loop.example/g00020/laws.FnRanges", spec := "fnRanges", unfollowed := true, recurses := true, apart := false }
def FnRangesSaid : Prop := fnRangesRow.holds Try.pinned (OpenSpec.ofChange fnRangesSpec)

/-- ITS FALSE NEIGHBOUR: 'it returns false'. Refute it at one input. -/
def fnRangesWrong : ChangeSpec := { name := "fnRanges", fn := fun _ => fun
  | [d1, d2] => { results := [.lit (.bool false)], args := [d1, d2] }
  | _ => none }
def FnRangesWrongFalsely : Prop := fnRangesRow.holds Try.pinned (OpenSpec.ofChange fnRangesWrong)

/-- 'laws.FnCauchy': WHATEVER THE INPUT: true; the input reads as it did. -/
def fnCauchySpec : ChangeSpec := { name := "fnCauchy", fn := fun _ => fun
  | [d1, d2] => { results := [.lit (.bool true)], args := [d1, d2] }
  | _ => none }
def fnCauchyRow : OpenClaim := { program := "ytcpmlelejlmpdaa", sum := "78281deb804f3baa58e71ea0b7cceccb9360b7f0d66e38bc2d0434cc507c631f", func := "loop.example/g00020/laws.FnCauchy", spec := "fnCauchy", apart := false }
def FnCauchySaid : Prop := fnCauchyRow.holds Try.pinned (OpenSpec.ofChange fnCauchySpec)

/-- ITS FALSE NEIGHBOUR: 'it returns false'. Refute it at one input. -/
def fnCauchyWrong : ChangeSpec := { name := "fnCauchy", fn := fun _ => fun
  | [d1, d2] => { results := [.lit (.bool false)], args := [d1, d2] }
  | _ => none }
def FnCauchyWrongFalsely : Prop := fnCauchyRow.holds Try.pinned (OpenSpec.ofChange fnCauchyWrong)

/- THE SECOND FORM. 'bulk': how many values and letters a reading holds, each counted each time it is reached (what is shared counts as often as it is met; a slice's spare places count too). A statement '..UptoSaid' is the law's where the arguments, and the package variables that the reading takes, are together of bulk at most 1048576: NARROWER than '..Said'. Prove '..Said' where nothing that the law and all that it calls make is longer than what came in: it says more and counts as full. Else prove '..UptoSaid'. A law counts once. -/
mutual
def uptoBulk {H : Type} : DataW H → Nat
  | .lit (.string bytes) => bytes.length + 1
  | .lit _ => 1
  | .nil => 1
  | .ptr d => uptoBulk d + 1
  | .slice elems spare => uptoBulkAll elems + uptoBulkAll spare + 1
  | .agg parts => uptoBulkAll parts + 1
  | .iface _ d => uptoBulk d + 1
  | .map entries => uptoBulkEntries entries + 1
  | .held _ => 1
def uptoBulkAll {H : Type} : List (DataW H) → Nat
  | [] => 0
  | d :: r => uptoBulk d + uptoBulkAll r
def uptoBulkEntries {H : Type} : List (Lit × DataW H) → Nat
  | [] => 0
  | x :: r => uptoBulkEntry x + uptoBulkEntries r
def uptoBulkEntry {H : Type} : Lit × DataW H → Nat
  | (.string bytes, d) => bytes.length + uptoBulk d + 1
  | (_, d) => uptoBulk d + 1
 end
def uptoSmall : (H : Type) → List (DataW H) → Bool := fun _ ds => decide (uptoBulkAll ds ≤ 1048576)
def OpenSpec.upto (s : _root_.Go.ChangeSpec) : _root_.Go.OpenSpec := { _root_.Go.OpenSpec.ofChange s with cond := some uptoSmall }

/-- 'laws.FnExactCodeRow', WHERE WHAT IT READS IS OF BULK AT MOST 1048576: true; the input reads as it did. -/
def fnExactCodeRowUptoRow : OpenClaim := { program := "ytcpmlelejlmpdaa", sum := "78281deb804f3baa58e71ea0b7cceccb9360b7f0d66e38bc2d0434cc507c631f", func := "loop.example/g00020/laws.FnExactCodeRow", spec := "fnExactCodeRow", apart := false, narrowed := true }
def FnExactCodeRowUptoSaid : Prop := fnExactCodeRowUptoRow.holds Try.pinned (OpenSpec.upto fnExactCodeRowSpec)

/-- 'laws.FnExactMatMul', WHERE WHAT IT READS IS OF BULK AT MOST 1048576: true; the input reads as it did. -/
def fnExactMatMulUptoRow : OpenClaim := { program := "ytcpmlelejlmpdaa", sum := "78281deb804f3baa58e71ea0b7cceccb9360b7f0d66e38bc2d0434cc507c631f", func := "loop.example/g00020/laws.FnExactMatMul", spec := "fnExactMatMul", apart := false, narrowed := true }
def FnExactMatMulUptoSaid : Prop := fnExactMatMulUptoRow.holds Try.pinned (OpenSpec.upto fnExactMatMulSpec)

/-- 'laws.FnExactEncodeShards', WHERE WHAT IT READS IS OF BULK AT MOST 1048576: true; the input reads as it did. -/
def fnExactEncodeShardsUptoRow : OpenClaim := { program := "ytcpmlelejlmpdaa", sum := "78281deb804f3baa58e71ea0b7cceccb9360b7f0d66e38bc2d0434cc507c631f", func := "loop.example/g00020/laws.FnExactEncodeShards", spec := "fnExactEncodeShards", apart := false, narrowed := true }
def FnExactEncodeShardsUptoSaid : Prop := fnExactEncodeShardsUptoRow.holds Try.pinned (OpenSpec.upto fnExactEncodeShardsSpec)

/-- 'laws.FnExactRangeReads', WHERE WHAT IT READS IS OF BULK AT MOST 1048576: true; the input reads as it did. -/
def fnExactRangeReadsUptoRow : OpenClaim := { program := "ytcpmlelejlmpdaa", sum := "78281deb804f3baa58e71ea0b7cceccb9360b7f0d66e38bc2d0434cc507c631f", func := "loop.example/g00020/laws.FnExactRangeReads", spec := "fnExactRangeReads", unfollowed := true, recurses := true, apart := false, narrowed := true }
def FnExactRangeReadsUptoSaid : Prop := fnExactRangeReadsUptoRow.holds Try.pinned (OpenSpec.upto fnExactRangeReadsSpec)

/-- 'laws.FnExactSplitObject', WHERE WHAT IT READS IS OF BULK AT MOST 1048576: true; the input reads as it did. -/
def fnExactSplitObjectUptoRow : OpenClaim := { program := "ytcpmlelejlmpdaa", sum := "78281deb804f3baa58e71ea0b7cceccb9360b7f0d66e38bc2d0434cc507c631f", func := "loop.example/g00020/laws.FnExactSplitObject", spec := "fnExactSplitObject", apart := false, narrowed := true }
def FnExactSplitObjectUptoSaid : Prop := fnExactSplitObjectUptoRow.holds Try.pinned (OpenSpec.upto fnExactSplitObjectSpec)

/-- 'laws.FnExactRepairPlan', WHERE WHAT IT READS IS OF BULK AT MOST 1048576: true; the input reads as it did. -/
def fnExactRepairPlanUptoRow : OpenClaim := { program := "ytcpmlelejlmpdaa", sum := "78281deb804f3baa58e71ea0b7cceccb9360b7f0d66e38bc2d0434cc507c631f", func := "loop.example/g00020/laws.FnExactRepairPlan", spec := "fnExactRepairPlan", apart := false, narrowed := true }
def FnExactRepairPlanUptoSaid : Prop := fnExactRepairPlanUptoRow.holds Try.pinned (OpenSpec.upto fnExactRepairPlanSpec)

/-- 'laws.FnRanges', WHERE WHAT IT READS IS OF BULK AT MOST 1048576: true; the input reads as it did. -/
def fnRangesUptoRow : OpenClaim := { program := "ytcpmlelejlmpdaa", sum := "78281deb804f3baa58e71ea0b7cceccb9360b7f0d66e38bc2d0434cc507c631f", func := "loop.example/g00020/laws.FnRanges", spec := "fnRanges", unfollowed := true, recurses := true, apart := false, narrowed := true }
def FnRangesUptoSaid : Prop := fnRangesUptoRow.holds Try.pinned (OpenSpec.upto fnRangesSpec)

/-- 'laws.FnCauchy', WHERE WHAT IT READS IS OF BULK AT MOST 1048576: true; the input reads as it did. -/
def fnCauchyUptoRow : OpenClaim := { program := "ytcpmlelejlmpdaa", sum := "78281deb804f3baa58e71ea0b7cceccb9360b7f0d66e38bc2d0434cc507c631f", func := "loop.example/g00020/laws.FnCauchy", spec := "fnCauchy", apart := false, narrowed := true }
def FnCauchyUptoSaid : Prop := fnCauchyUptoRow.holds Try.pinned (OpenSpec.upto fnCauchySpec)

end Rows
end Go.Proofs.Ytcpmlelejlmpdaa
