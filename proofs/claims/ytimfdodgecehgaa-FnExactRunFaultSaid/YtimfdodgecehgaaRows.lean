/-
  No cell of these rows narrows 'for every input' (looked for: loops, veiled, ifaces, maps, wideKeys, modest, calm, conditions, laid).
  DERIVED. THE GIVEN ROWS OF THIS SEAT. 12 by the template 'for every input the law returns true; each argument reads behind the call as it read before'; 0 by the template 'total and deterministic' (their statements: YtimfdodgecehgaaTotals.lean).
  GIVEN WITH THE SEED: the statements are not yours to turn. If you find one false, say at which input.
  Laid BY PROGRAM, IN A SANDBOX (cutbox-rows.mjs): the forced cells as the released guide's own fill.sh prints them over the translation a961a59a3e3e2aeb… (all of the seat's roots in one cut). By AI agents, Wed Nov 11 2026. No macro, syntax, notation, axiom, sorry.
-/
import Derived.Test.YtimfdodgecehgaaChecked
import GoSem.Claim
import GoSem.ClaimJoined
import GoSem.ClaimMapViews
import Derived.JoinedTies
import Derived.KernelRfl
namespace Go.Proofs.Ytimfdodgecehgaa
/- THE CELL 'sum', in the pinned program and in every row, IS THE sha256 OF THE DUMP (.gsa) THAT YtimfdodgecehgaaProg.lean LOADS. Nothing in Lean hashes anything: it is a label: what it is worth is what the hold of that sum in a sandbox is worth. -/
noncomputable def Try.pinned : Pinned := { name := "ytimfdodgecehgaa", sum := "a961a59a3e3e2aeb1cb4f8b0386ed65b22de5d3e28898f7ea55cae669e95605b", checked := Try.checked }
namespace Rows
def none {H : Type} : Left H := { results := [], args := [] }

/-- 'laws.FnSums': WHATEVER THE INPUT: true; the input reads as it did. -/
def fnSumsSpec : ChangeSpec := { name := "fnSums", fn := fun _ => fun
  | [d1, d2] => { results := [.lit (.bool true)], args := [d1, d2] }
  | _ => none }
def fnSumsRow : OpenClaim := { program := "ytimfdodgecehgaa", sum := "a961a59a3e3e2aeb1cb4f8b0386ed65b22de5d3e28898f7ea55cae669e95605b", func := "loop.example/g00020/laws.FnSums", spec := "fnSums", apart := false }
def FnSumsSaid : Prop := fnSumsRow.holds Try.pinned (OpenSpec.ofChange fnSumsSpec)

/-- ITS FALSE NEIGHBOUR: 'it returns false'. Refute it at one input. -/
def fnSumsWrong : ChangeSpec := { name := "fnSums", fn := fun _ => fun
  | [d1, d2] => { results := [.lit (.bool false)], args := [d1, d2] }
  | _ => none }
def FnSumsWrongFalsely : Prop := fnSumsRow.holds Try.pinned (OpenSpec.ofChange fnSumsWrong)

/-- 'laws.FnField': WHATEVER THE INPUT: true; the input reads as it did. -/
def fnFieldSpec : ChangeSpec := { name := "fnField", fn := fun _ => fun
  | [d1, d2] => { results := [.lit (.bool true)], args := [d1, d2] }
  | _ => none }
def fnFieldRow : OpenClaim := { program := "ytimfdodgecehgaa", sum := "a961a59a3e3e2aeb1cb4f8b0386ed65b22de5d3e28898f7ea55cae669e95605b", func := "loop.example/g00020/laws.FnField", spec := "fnField", apart := false }
def FnFieldSaid : Prop := fnFieldRow.holds Try.pinned (OpenSpec.ofChange fnFieldSpec)

/-- ITS FALSE NEIGHBOUR: 'it returns false'. Refute it at one input. -/
def fnFieldWrong : ChangeSpec := { name := "fnField", fn := fun _ => fun
  | [d1, d2] => { results := [.lit (.bool false)], args := [d1, d2] }
  | _ => none }
def FnFieldWrongFalsely : Prop := fnFieldRow.holds Try.pinned (OpenSpec.ofChange fnFieldWrong)

/-- 'laws.FnGlobs': WHATEVER THE INPUT: true; the input reads as it did. -/
def fnGlobsSpec : ChangeSpec := { name := "fnGlobs", fn := fun _ => fun
  | [d1, d2] => { results := [.lit (.bool true)], args := [d1, d2] }
  | _ => none }
def fnGlobsRow : OpenClaim := { program := "ytimfdodgecehgaa", sum := "a961a59a3e3e2aeb1cb4f8b0386ed65b22de5d3e28898f7ea55cae669e95605b", func := "loop.example/g00020/laws.FnGlobs", spec := "fnGlobs", apart := false }
def FnGlobsSaid : Prop := fnGlobsRow.holds Try.pinned (OpenSpec.ofChange fnGlobsSpec)

/-- ITS FALSE NEIGHBOUR: 'it returns false'. Refute it at one input. -/
def fnGlobsWrong : ChangeSpec := { name := "fnGlobs", fn := fun _ => fun
  | [d1, d2] => { results := [.lit (.bool false)], args := [d1, d2] }
  | _ => none }
def FnGlobsWrongFalsely : Prop := fnGlobsRow.holds Try.pinned (OpenSpec.ofChange fnGlobsWrong)

/-- 'laws.FnExactDiskScore': WHATEVER THE INPUT: true; the input reads as it did. -/
def fnExactDiskScoreSpec : ChangeSpec := { name := "fnExactDiskScore", fn := fun _ => fun
  | [d1, d2, d3] => { results := [.lit (.bool true)], args := [d1, d2, d3] }
  | _ => none }
def fnExactDiskScoreRow : OpenClaim := { program := "ytimfdodgecehgaa", sum := "a961a59a3e3e2aeb1cb4f8b0386ed65b22de5d3e28898f7ea55cae669e95605b", func := "loop.example/g00020/laws.FnExactDiskScore", spec := "fnExactDiskScore", apart := false }
def FnExactDiskScoreSaid : Prop := fnExactDiskScoreRow.holds Try.pinned (OpenSpec.ofChange fnExactDiskScoreSpec)

/-- ITS FALSE NEIGHBOUR: 'it returns false'. Refute it at one input. -/
def fnExactDiskScoreWrong : ChangeSpec := { name := "fnExactDiskScore", fn := fun _ => fun
  | [d1, d2, d3] => { results := [.lit (.bool false)], args := [d1, d2, d3] }
  | _ => none }
def FnExactDiskScoreWrongFalsely : Prop := fnExactDiskScoreRow.holds Try.pinned (OpenSpec.ofChange fnExactDiskScoreWrong)

/-- 'laws.FnExactRunFault': WHATEVER THE INPUT: true; the input reads as it did. -/
def fnExactRunFaultSpec : ChangeSpec := { name := "fnExactRunFault", fn := fun _ => fun
  | [d] => { results := [.lit (.bool true)], args := [d] }
  | _ => none }
def fnExactRunFaultRow : OpenClaim := { program := "ytimfdodgecehgaa", sum := "a961a59a3e3e2aeb1cb4f8b0386ed65b22de5d3e28898f7ea55cae669e95605b", func := "loop.example/g00020/laws.FnExactRunFault", spec := "fnExactRunFault", apart := false }
def FnExactRunFaultSaid : Prop := fnExactRunFaultRow.holds Try.pinned (OpenSpec.ofChange fnExactRunFaultSpec)

/-- ITS FALSE NEIGHBOUR: 'it returns false'. Refute it at one input. -/
def fnExactRunFaultWrong : ChangeSpec := { name := "fnExactRunFault", fn := fun _ => fun
  | [d] => { results := [.lit (.bool false)], args := [d] }
  | _ => none }
def FnExactRunFaultWrongFalsely : Prop := fnExactRunFaultRow.holds Try.pinned (OpenSpec.ofChange fnExactRunFaultWrong)

/-- 'laws.FnExactCauchy': WHATEVER THE INPUT: true; the input reads as it did. -/
def fnExactCauchySpec : ChangeSpec := { name := "fnExactCauchy", fn := fun _ => fun
  | [d1, d2] => { results := [.lit (.bool true)], args := [d1, d2] }
  | _ => none }
def fnExactCauchyRow : OpenClaim := { program := "ytimfdodgecehgaa", sum := "a961a59a3e3e2aeb1cb4f8b0386ed65b22de5d3e28898f7ea55cae669e95605b", func := "loop.example/g00020/laws.FnExactCauchy", spec := "fnExactCauchy", apart := false }
def FnExactCauchySaid : Prop := fnExactCauchyRow.holds Try.pinned (OpenSpec.ofChange fnExactCauchySpec)

/-- ITS FALSE NEIGHBOUR: 'it returns false'. Refute it at one input. -/
def fnExactCauchyWrong : ChangeSpec := { name := "fnExactCauchy", fn := fun _ => fun
  | [d1, d2] => { results := [.lit (.bool false)], args := [d1, d2] }
  | _ => none }
def FnExactCauchyWrongFalsely : Prop := fnExactCauchyRow.holds Try.pinned (OpenSpec.ofChange fnExactCauchyWrong)

/-- 'laws.FnExactRangeReads': WHATEVER THE INPUT: true; the input reads as it did. -/
def fnExactRangeReadsSpec : ChangeSpec := { name := "fnExactRangeReads", fn := fun _ => fun
  | [d1, d2, d3, d4, d5] => { results := [.lit (.bool true)], args := [d1, d2, d3, d4, d5] }
  | _ => none }
def fnExactRangeReadsRow : OpenClaim := { program := "ytimfdodgecehgaa", sum := "a961a59a3e3e2aeb1cb4f8b0386ed65b22de5d3e28898f7ea55cae669e95605b", func := "loop.example/g00020/laws.FnExactRangeReads", spec := "fnExactRangeReads", unfollowed := true, recurses := true, apart := false }
def FnExactRangeReadsSaid : Prop := fnExactRangeReadsRow.holds Try.pinned (OpenSpec.ofChange fnExactRangeReadsSpec)

/-- ITS FALSE NEIGHBOUR: 'it returns false'. Refute it at one input. -/
def fnExactRangeReadsWrong : ChangeSpec := { name := "fnExactRangeReads", fn := fun _ => fun
  | [d1, d2, d3, d4, d5] => { results := [.lit (.bool false)], args := [d1, d2, d3, d4, d5] }
  | _ => none }
def FnExactRangeReadsWrongFalsely : Prop := fnExactRangeReadsRow.holds Try.pinned (OpenSpec.ofChange fnExactRangeReadsWrong)

/-- 'laws.FnExactCodeRow': WHATEVER THE INPUT: true; the input reads as it did. -/
def fnExactCodeRowSpec : ChangeSpec := { name := "fnExactCodeRow", fn := fun _ => fun
  | [d1, d2] => { results := [.lit (.bool true)], args := [d1, d2] }
  | _ => none }
def fnExactCodeRowRow : OpenClaim := { program := "ytimfdodgecehgaa", sum := "a961a59a3e3e2aeb1cb4f8b0386ed65b22de5d3e28898f7ea55cae669e95605b", func := "loop.example/g00020/laws.FnExactCodeRow", spec := "fnExactCodeRow", apart := false }
def FnExactCodeRowSaid : Prop := fnExactCodeRowRow.holds Try.pinned (OpenSpec.ofChange fnExactCodeRowSpec)

/-- ITS FALSE NEIGHBOUR: 'it returns false'. Refute it at one input. -/
def fnExactCodeRowWrong : ChangeSpec := { name := "fnExactCodeRow", fn := fun _ => fun
  | [d1, d2] => { results := [.lit (.bool false)], args := [d1, d2] }
  | _ => none }
def FnExactCodeRowWrongFalsely : Prop := fnExactCodeRowRow.holds Try.pinned (OpenSpec.ofChange fnExactCodeRowWrong)

/-- 'laws.FnExactBucketBytes': WHATEVER THE INPUT: true; the input reads as it did. -/
def fnExactBucketBytesSpec : ChangeSpec := { name := "fnExactBucketBytes", fn := fun _ => fun
  | [d] => { results := [.lit (.bool true)], args := [d] }
  | _ => none }
def fnExactBucketBytesRow : OpenClaim := { program := "ytimfdodgecehgaa", sum := "a961a59a3e3e2aeb1cb4f8b0386ed65b22de5d3e28898f7ea55cae669e95605b", func := "loop.example/g00020/laws.FnExactBucketBytes", spec := "fnExactBucketBytes", apart := false }
def FnExactBucketBytesSaid : Prop := fnExactBucketBytesRow.holds Try.pinned (OpenSpec.ofChange fnExactBucketBytesSpec)

/-- ITS FALSE NEIGHBOUR: 'it returns false'. Refute it at one input. -/
def fnExactBucketBytesWrong : ChangeSpec := { name := "fnExactBucketBytes", fn := fun _ => fun
  | [d] => { results := [.lit (.bool false)], args := [d] }
  | _ => none }
def FnExactBucketBytesWrongFalsely : Prop := fnExactBucketBytesRow.holds Try.pinned (OpenSpec.ofChange fnExactBucketBytesWrong)

/-- 'laws.FnExactBucketFault': WHATEVER THE INPUT: true; the input reads as it did. -/
def fnExactBucketFaultSpec : ChangeSpec := { name := "fnExactBucketFault", fn := fun _ => fun
  | [d] => { results := [.lit (.bool true)], args := [d] }
  | _ => none }
def fnExactBucketFaultRow : OpenClaim := { program := "ytimfdodgecehgaa", sum := "a961a59a3e3e2aeb1cb4f8b0386ed65b22de5d3e28898f7ea55cae669e95605b", func := "loop.example/g00020/laws.FnExactBucketFault", spec := "fnExactBucketFault", apart := false }
def FnExactBucketFaultSaid : Prop := fnExactBucketFaultRow.holds Try.pinned (OpenSpec.ofChange fnExactBucketFaultSpec)

/-- ITS FALSE NEIGHBOUR: 'it returns false'. Refute it at one input. -/
def fnExactBucketFaultWrong : ChangeSpec := { name := "fnExactBucketFault", fn := fun _ => fun
  | [d] => { results := [.lit (.bool false)], args := [d] }
  | _ => none }
def FnExactBucketFaultWrongFalsely : Prop := fnExactBucketFaultRow.holds Try.pinned (OpenSpec.ofChange fnExactBucketFaultWrong)

/-- 'laws.FnExactMatMul': WHATEVER THE INPUT: true; the input reads as it did. -/
def fnExactMatMulSpec : ChangeSpec := { name := "fnExactMatMul", fn := fun _ => fun
  | [d1, d2] => { results := [.lit (.bool true)], args := [d1, d2] }
  | _ => none }
def fnExactMatMulRow : OpenClaim := { program := "ytimfdodgecehgaa", sum := "a961a59a3e3e2aeb1cb4f8b0386ed65b22de5d3e28898f7ea55cae669e95605b", func := "loop.example/g00020/laws.FnExactMatMul", spec := "fnExactMatMul", apart := false }
def FnExactMatMulSaid : Prop := fnExactMatMulRow.holds Try.pinned (OpenSpec.ofChange fnExactMatMulSpec)

/-- ITS FALSE NEIGHBOUR: 'it returns false'. Refute it at one input. -/
def fnExactMatMulWrong : ChangeSpec := { name := "fnExactMatMul", fn := fun _ => fun
  | [d1, d2] => { results := [.lit (.bool false)], args := [d1, d2] }
  | _ => none }
def FnExactMatMulWrongFalsely : Prop := fnExactMatMulRow.holds Try.pinned (OpenSpec.ofChange fnExactMatMulWrong)

/-- 'laws.FnCauchy': WHATEVER THE INPUT: true; the input reads as it did. -/
def fnCauchySpec : ChangeSpec := { name := "fnCauchy", fn := fun _ => fun
  | [d1, d2] => { results := [.lit (.bool true)], args := [d1, d2] }
  | _ => none }
def fnCauchyRow : OpenClaim := { program := "ytimfdodgecehgaa", sum := "a961a59a3e3e2aeb1cb4f8b0386ed65b22de5d3e28898f7ea55cae669e95605b", func := "loop.example/g00020/laws.FnCauchy", spec := "fnCauchy", apart := false }
def FnCauchySaid : Prop := fnCauchyRow.holds Try.pinned (OpenSpec.ofChange fnCauchySpec)

/-- ITS FALSE NEIGHBOUR: 'it returns false'. Refute it at one input. -/
def fnCauchyWrong : ChangeSpec := { name := "fnCauchy", fn := fun _ => fun
  | [d1, d2] => { results := [.lit (.bool false)], args := [d1, d2] }
  | _ => none }
def FnCauchyWrongFalsely : Prop := fnCauchyRow.holds Try.pinned (OpenSpec.ofChange fnCauchyWrong)

/- THE SECOND FORM. 'bulk': how many values and letters a reading holds, each counted each time it is reached (what is shared counts as often as it is met; a slice's spare places count too). A statement '..UptoSaid' is the law's where the arguments, and the package variables that the reading takes, are together of bulk at most 1048576: NARROWER than '..Said'. Prove '..Said' where nothing that the law and all that it calls make is longer than what came in: it says more and counts as full. Else prove '..UptoSaid'. A law counts once. -/
mutual
def uptoBulk {H : Type} : DataW H → Nat
  | .lit (.string bytes) => bytes.length + 1
  | .lit _ => 1
  | .nil => 1
  | .ptr d => uptoBulk d + 1
  | .slice elems spare => uptoBulkAll elems + uptoBulkAll spare + 1
  | .agg parts => uptoBulkAll parts + 1
  | .iface _ d => uptoBulk d + 1
  | .map entries => uptoBulkEntries entries + 1
  | .held _ => 1
def uptoBulkAll {H : Type} : List (DataW H) → Nat
  | [] => 0
  | d :: r => uptoBulk d + uptoBulkAll r
def uptoBulkEntries {H : Type} : List (Lit × DataW H) → Nat
  | [] => 0
  | x :: r => uptoBulkEntry x + uptoBulkEntries r
def uptoBulkEntry {H : Type} : Lit × DataW H → Nat
  | (.string bytes, d) => bytes.length + uptoBulk d + 1
  | (_, d) => uptoBulk d + 1
 end
def uptoSmall : (H : Type) → List (DataW H) → Bool := fun _ ds => decide (uptoBulkAll ds ≤ 1048576)
def OpenSpec.upto (s : _root_.Go.ChangeSpec) : _root_.Go.OpenSpec := { _root_.Go.OpenSpec.ofChange s with cond := some uptoSmall }

/-- 'laws.FnSums', WHERE WHAT IT READS IS OF BULK AT MOST 1048576: true; the input reads as it did. -/
def fnSumsUptoRow : OpenClaim := { program := "ytimfdodgecehgaa", sum := "a961a59a3e3e2aeb1cb4f8b0386ed65b22de5d3e28898f7ea55cae669e95605b", func := "loop.example/g00020/laws.FnSums", spec := "fnSums", apart := false, narrowed := true }
def FnSumsUptoSaid : Prop := fnSumsUptoRow.holds Try.pinned (OpenSpec.upto fnSumsSpec)

/-- 'laws.FnField', WHERE WHAT IT READS IS OF BULK AT MOST 1048576: true; the input reads as it did. -/
def fnFieldUptoRow : OpenClaim := { program := "ytimfdodgecehgaa", sum := "a961a59a3e3e2aeb1cb4f8b0386ed65b22de5d3e28898f7ea55cae669e95605b", func := "loop.example/g00020/laws.FnField", spec := "fnField", apart := false, narrowed := true }
def FnFieldUptoSaid : Prop := fnFieldUptoRow.holds Try.pinned (OpenSpec.upto fnFieldSpec)

/-- 'laws.FnGlobs', WHERE WHAT IT READS IS OF BULK AT MOST 1048576: true; the input reads as it did. -/
def fnGlobsUptoRow : OpenClaim := { program := "ytimfdodgecehgaa", sum := "a961a59a3e3e2aeb1cb4f8b0386ed65b22de5d3e28898f7ea55cae669e95605b", func := "loop.example/g00020/laws.FnGlobs", spec := "fnGlobs", apart := false, narrowed := true }
def FnGlobsUptoSaid : Prop := fnGlobsUptoRow.holds Try.pinned (OpenSpec.upto fnGlobsSpec)

/-- 'laws.FnExactDiskScore', WHERE WHAT IT READS IS OF BULK AT MOST 1048576: true; the input reads as it did. -/
def fnExactDiskScoreUptoRow : OpenClaim := { program := "ytimfdodgecehgaa", sum := "a961a59a3e3e2aeb1cb4f8b0386ed65b22de5d3e28898f7ea55cae669e95605b", func := "loop.example/g00020/laws.FnExactDiskScore", spec := "fnExactDiskScore", apart := false, narrowed := true }
def FnExactDiskScoreUptoSaid : Prop := fnExactDiskScoreUptoRow.holds Try.pinned (OpenSpec.upto fnExactDiskScoreSpec)

/-- 'laws.FnExactRunFault', WHERE WHAT IT READS IS OF BULK AT MOST 1048576: true; the input reads as it did. -/
def fnExactRunFaultUptoRow : OpenClaim := { program := "ytimfdodgecehgaa", sum := "a961a59a3e3e2aeb1cb4f8b0386ed65b22de5d3e28898f7ea55cae669e95605b", func := "loop.example/g00020/laws.FnExactRunFault", spec := "fnExactRunFault", apart := false, narrowed := true }
def FnExactRunFaultUptoSaid : Prop := fnExactRunFaultUptoRow.holds Try.pinned (OpenSpec.upto fnExactRunFaultSpec)

/-- 'laws.FnExactCauchy', WHERE WHAT IT READS IS OF BULK AT MOST 1048576: true; the input reads as it did. -/
def fnExactCauchyUptoRow : OpenClaim := { program := "ytimfdodgecehgaa", sum := "a961a59a3e3e2aeb1cb4f8b0386ed65b22de5d3e28898f7ea55cae669e95605b", func := "loop.example/g00020/laws.FnExactCauchy", spec := "fnExactCauchy", apart := false, narrowed := true }
def FnExactCauchyUptoSaid : Prop := fnExactCauchyUptoRow.holds Try.pinned (OpenSpec.upto fnExactCauchySpec)

/-- 'laws.FnExactRangeReads', WHERE WHAT IT READS IS OF BULK AT MOST 1048576: true; the input reads as it did. -/
def fnExactRangeReadsUptoRow : OpenClaim := { program := "ytimfdodgecehgaa", sum := "a961a59a3e3e2aeb1cb4f8b0386ed65b22de5d3e28898f7ea55cae669e95605b", func := "loop.example/g00020/laws.FnExactRangeReads", spec := "fnExactRangeReads", unfollowed := true, recurses := true, apart := false, narrowed := true }
def FnExactRangeReadsUptoSaid : Prop := fnExactRangeReadsUptoRow.holds Try.pinned (OpenSpec.upto fnExactRangeReadsSpec)

/-- 'laws.FnExactCodeRow', WHERE WHAT IT READS IS OF BULK AT MOST 1048576: true; the input reads as it did. -/
def fnExactCodeRowUptoRow : OpenClaim := { program := "ytimfdodgecehgaa", sum := "a961a59a3e3e2aeb1cb4f8b0386ed65b22de5d3e28898f7ea55cae669e95605b", func := "loop.example/g00020/laws.FnExactCodeRow", spec := "fnExactCodeRow", apart := false, narrowed := true }
def FnExactCodeRowUptoSaid : Prop := fnExactCodeRowUptoRow.holds Try.pinned (OpenSpec.upto fnExactCodeRowSpec)

/-- 'laws.FnExactBucketBytes', WHERE WHAT IT READS IS OF BULK AT MOST 1048576: true; the input reads as it did. -/
def fnExactBucketBytesUptoRow : OpenClaim := { program := "ytimfdodgecehgaa", sum := "a961a59a3e3e2aeb1cb4f8b0386ed65b22de5d3e28898f7ea55cae669e95605b", func := "loop.example/g00020/laws.FnExactBucketBytes", spec := "fnExactBucketBytes", apart := false, narrowed := true }
def FnExactBucketBytesUptoSaid : Prop := fnExactBucketBytesUptoRow.holds Try.pinned (OpenSpec.upto fnExactBucketBytesSpec)

/-- 'laws.FnExactBucketFault', WHERE WHAT IT READS IS OF BULK AT MOST 1048576: true; the input reads as it did. -/
def fnExactBucketFaultUptoRow : OpenClaim := { program := "ytimfdodgecehgaa", sum := "a961a59a3e3e2aeb1cb4f8b0386ed65b22de5d3e28898f7ea55cae669e95605b", func := "loop.example/g00020/laws.FnExactBucketFault", spec := "fnExactBucketFault", apart := false, narrowed := true }
def FnExactBucketFaultUptoSaid : Prop := fnExactBucketFaultUptoRow.holds Try.pinned (OpenSpec.upto fnExactBucketFaultSpec)

/-- 'laws.FnExactMatMul', WHERE WHAT IT READS IS OF BULK AT MOST 1048576: true; the input reads as it did. -/
def fnExactMatMulUptoRow : OpenClaim := { program := "ytimfdodgecehgaa", sum := "a961a59a3e3e2aeb1cb4f8b0386ed65b22de5d3e28898f7ea55cae669e95605b", func := "loop.example/g00020/laws.FnExactMatMul", spec := "fnExactMatMul", apart := false, narrowed := true }
def FnExactMatMulUptoSaid : Prop := fnExactMatMulUptoRow.holds Try.pinned (OpenSpec.upto fnExactMatMulSpec)

/-- 'laws.FnCauchy', WHERE WHAT IT READS IS OF BULK AT MOST 1048576: true; the input reads as it did. -/
def fnCauchyUptoRow : OpenClaim := { program := "ytimfdodgecehgaa", sum := "a961a59a3e3e2aeb1cb4f8b0386ed65b22de5d3e28898f7ea55cae669e95605b", func := "loop.example/g00020/laws.FnCauchy", spec := "fnCauchy", apart := false, narrowed := true }
def FnCauchyUptoSaid : Prop := fnCauchyUptoRow.holds Try.pinned (OpenSpec.upto fnCauchySpec)

end Rows
end Go.Proofs.Ytimfdodgecehgaa
