/-
  No cell of these rows narrows 'for every input' (looked for: loops, veiled, ifaces, maps, wideKeys, modest, calm, conditions, laid).
  DERIVED. THE GIVEN ROWS OF THIS SEAT. 12 by the template 'for every input the law returns true; each argument reads behind the call as it read before'; 0 by the template 'total and deterministic' (their statements: YtjlbhjacjjkccaaTotals.lean).
  GIVEN WITH THE SEED: the statements are not yours to turn. If you find one false, say at which input.
  Laid BY PROGRAM, IN A SANDBOX (cutbox-rows.mjs): the forced cells as the released guide's own fill.sh prints them over the translation 2aeab6f672583e22… (all of the seat's roots in one cut). By AI agents, Wed Nov 11 2026. No macro, syntax, notation, axiom, sorry.
-/
import Derived.Test.YtjlbhjacjjkccaaChecked
import GoSem.Claim
import GoSem.ClaimJoined
import GoSem.ClaimMapViews
import Derived.JoinedTies
import Derived.KernelRfl
namespace Go.Proofs.Ytjlbhjacjjkccaa
/- THE CELL 'sum', in the pinned program and in every row, IS THE sha256 OF THE DUMP (.gsa) THAT YtjlbhjacjjkccaaProg.lean LOADS. Nothing in Lean hashes anything: it is a label: what it is worth is what the hold of that sum in a sandbox is worth. -/
noncomputable def Try.pinned : Pinned := { name := "ytjlbhjacjjkccaa", sum := "2aeab6f672583e22df553cbfa9a849572c47309b870f7ab5f4e64df8126f4ae4", checked := Try.checked }
namespace Rows
def none {H : Type} : Left H := { results := [], args := [] }

/-- 'laws.FnExactConstants': WHATEVER THE INPUT: true; the input reads as it did. -/
def fnExactConstantsSpec : ChangeSpec := { name := "fnExactConstants", fn := fun _ => fun
  | [] => { results := [.lit (.bool true)], args := [] }
  | _ => none }
def fnExactConstantsRow : OpenClaim := { program := "ytjlbhjacjjkccaa", sum := "2aeab6f672583e22df553cbfa9a849572c47309b870f7ab5f4e64df8126f4ae4", func := "loop.example/g00020/laws.FnExactConstants", spec := "fnExactConstants", apart := false }
def FnExactConstantsSaid : Prop := fnExactConstantsRow.holds Try.pinned (OpenSpec.ofChange fnExactConstantsSpec)

/-- ITS FALSE NEIGHBOUR: 'it returns false'. Refute it at one input. -/
def fnExactConstantsWrong : ChangeSpec := { name := "fnExactConstants", fn := fun _ => fun
  | [] => { results := [.lit (.bool false)], args := [] }
  | _ => none }
def FnExactConstantsWrongFalsely : Prop := fnExactConstantsRow.holds Try.pinned (OpenSpec.ofChange fnExactConstantsWrong)

/-- 'laws.FnExactCodeFault': WHATEVER THE INPUT: true; the input reads as it did. -/
def fnExactCodeFaultSpec : ChangeSpec := { name := "fnExactCodeFault", fn := fun _ => fun
  | [d] => { results := [.lit (.bool true)], args := [d] }
  | _ => none }
def fnExactCodeFaultRow : OpenClaim := { program := "ytjlbhjacjjkccaa", sum := "2aeab6f672583e22df553cbfa9a849572c47309b870f7ab5f4e64df8126f4ae4", func := "loop.example/g00020/laws.FnExactCodeFault", spec := "fnExactCodeFault", apart := false }
def FnExactCodeFaultSaid : Prop := fnExactCodeFaultRow.holds Try.pinned (OpenSpec.ofChange fnExactCodeFaultSpec)

/-- ITS FALSE NEIGHBOUR: 'it returns false'. Refute it at one input. -/
def fnExactCodeFaultWrong : ChangeSpec := { name := "fnExactCodeFault", fn := fun _ => fun
  | [d] => { results := [.lit (.bool false)], args := [d] }
  | _ => none }
def FnExactCodeFaultWrongFalsely : Prop := fnExactCodeFaultRow.holds Try.pinned (OpenSpec.ofChange fnExactCodeFaultWrong)

/-- 'laws.FnExactSumOf': WHATEVER THE INPUT: true; the input reads as it did. -/
def fnExactSumOfSpec : ChangeSpec := { name := "fnExactSumOf", fn := fun _ => fun
  | [d1, d2] => { results := [.lit (.bool true)], args := [d1, d2] }
  | _ => none }
def fnExactSumOfRow : OpenClaim := { program := "ytjlbhjacjjkccaa", sum := "2aeab6f672583e22df553cbfa9a849572c47309b870f7ab5f4e64df8126f4ae4", func := "loop.example/g00020/laws.FnExactSumOf", spec := "fnExactSumOf", apart := false }
def FnExactSumOfSaid : Prop := fnExactSumOfRow.holds Try.pinned (OpenSpec.ofChange fnExactSumOfSpec)

/-- ITS FALSE NEIGHBOUR: 'it returns false'. Refute it at one input. -/
def fnExactSumOfWrong : ChangeSpec := { name := "fnExactSumOf", fn := fun _ => fun
  | [d1, d2] => { results := [.lit (.bool false)], args := [d1, d2] }
  | _ => none }
def FnExactSumOfWrongFalsely : Prop := fnExactSumOfRow.holds Try.pinned (OpenSpec.ofChange fnExactSumOfWrong)

/-- 'laws.FnExactHex': WHATEVER THE INPUT: true; the input reads as it did. -/
def fnExactHexSpec : ChangeSpec := { name := "fnExactHex", fn := fun _ => fun
  | [d] => { results := [.lit (.bool true)], args := [d] }
  | _ => none }
def fnExactHexRow : OpenClaim := { program := "ytjlbhjacjjkccaa", sum := "2aeab6f672583e22df553cbfa9a849572c47309b870f7ab5f4e64df8126f4ae4", func := "loop.example/g00020/laws.FnExactHex", spec := "fnExactHex", apart := false }
def FnExactHexSaid : Prop := fnExactHexRow.holds Try.pinned (OpenSpec.ofChange fnExactHexSpec)

/-- ITS FALSE NEIGHBOUR: 'it returns false'. Refute it at one input. -/
def fnExactHexWrong : ChangeSpec := { name := "fnExactHex", fn := fun _ => fun
  | [d] => { results := [.lit (.bool false)], args := [d] }
  | _ => none }
def FnExactHexWrongFalsely : Prop := fnExactHexRow.holds Try.pinned (OpenSpec.ofChange fnExactHexWrong)

/-- 'laws.FnExactPutNum': WHATEVER THE INPUT: true; the input reads as it did. -/
def fnExactPutNumSpec : ChangeSpec := { name := "fnExactPutNum", fn := fun _ => fun
  | [d] => { results := [.lit (.bool true)], args := [d] }
  | _ => none }
def fnExactPutNumRow : OpenClaim := { program := "ytjlbhjacjjkccaa", sum := "2aeab6f672583e22df553cbfa9a849572c47309b870f7ab5f4e64df8126f4ae4", func := "loop.example/g00020/laws.FnExactPutNum", spec := "fnExactPutNum", apart := false }
def FnExactPutNumSaid : Prop := fnExactPutNumRow.holds Try.pinned (OpenSpec.ofChange fnExactPutNumSpec)

/-- ITS FALSE NEIGHBOUR: 'it returns false'. Refute it at one input. -/
def fnExactPutNumWrong : ChangeSpec := { name := "fnExactPutNum", fn := fun _ => fun
  | [d] => { results := [.lit (.bool false)], args := [d] }
  | _ => none }
def FnExactPutNumWrongFalsely : Prop := fnExactPutNumRow.holds Try.pinned (OpenSpec.ofChange fnExactPutNumWrong)

/-- 'laws.FnExactCodeSize': WHATEVER THE INPUT: true; the input reads as it did. -/
def fnExactCodeSizeSpec : ChangeSpec := { name := "fnExactCodeSize", fn := fun _ => fun
  | [d] => { results := [.lit (.bool true)], args := [d] }
  | _ => none }
def fnExactCodeSizeRow : OpenClaim := { program := "ytjlbhjacjjkccaa", sum := "2aeab6f672583e22df553cbfa9a849572c47309b870f7ab5f4e64df8126f4ae4", func := "loop.example/g00020/laws.FnExactCodeSize", spec := "fnExactCodeSize", apart := false }
def FnExactCodeSizeSaid : Prop := fnExactCodeSizeRow.holds Try.pinned (OpenSpec.ofChange fnExactCodeSizeSpec)

/-- ITS FALSE NEIGHBOUR: 'it returns false'. Refute it at one input. -/
def fnExactCodeSizeWrong : ChangeSpec := { name := "fnExactCodeSize", fn := fun _ => fun
  | [d] => { results := [.lit (.bool false)], args := [d] }
  | _ => none }
def FnExactCodeSizeWrongFalsely : Prop := fnExactCodeSizeRow.holds Try.pinned (OpenSpec.ofChange fnExactCodeSizeWrong)

/-- 'laws.FnExactPutText': WHATEVER THE INPUT: true; the input reads as it did. -/
def fnExactPutTextSpec : ChangeSpec := { name := "fnExactPutText", fn := fun _ => fun
  | [d] => { results := [.lit (.bool true)], args := [d] }
  | _ => none }
def fnExactPutTextRow : OpenClaim := { program := "ytjlbhjacjjkccaa", sum := "2aeab6f672583e22df553cbfa9a849572c47309b870f7ab5f4e64df8126f4ae4", func := "loop.example/g00020/laws.FnExactPutText", spec := "fnExactPutText", apart := false }
def FnExactPutTextSaid : Prop := fnExactPutTextRow.holds Try.pinned (OpenSpec.ofChange fnExactPutTextSpec)

/-- ITS FALSE NEIGHBOUR: 'it returns false'. Refute it at one input. -/
def fnExactPutTextWrong : ChangeSpec := { name := "fnExactPutText", fn := fun _ => fun
  | [d] => { results := [.lit (.bool false)], args := [d] }
  | _ => none }
def FnExactPutTextWrongFalsely : Prop := fnExactPutTextRow.holds Try.pinned (OpenSpec.ofChange fnExactPutTextWrong)

/-- 'laws.FnExactStripeCount': WHATEVER THE INPUT: true; the input reads as it did. -/
def fnExactStripeCountSpec : ChangeSpec := { name := "fnExactStripeCount", fn := fun _ => fun
  | [d1, d2, d3] => { results := [.lit (.bool true)], args := [d1, d2, d3] }
  | _ => none }
def fnExactStripeCountRow : OpenClaim := { program := "ytjlbhjacjjkccaa", sum := "2aeab6f672583e22df553cbfa9a849572c47309b870f7ab5f4e64df8126f4ae4", func := "loop.example/g00020/laws.FnExactStripeCount", spec := "fnExactStripeCount", apart := false }
def FnExactStripeCountSaid : Prop := fnExactStripeCountRow.holds Try.pinned (OpenSpec.ofChange fnExactStripeCountSpec)

/-- ITS FALSE NEIGHBOUR: 'it returns false'. Refute it at one input. -/
def fnExactStripeCountWrong : ChangeSpec := { name := "fnExactStripeCount", fn := fun _ => fun
  | [d1, d2, d3] => { results := [.lit (.bool false)], args := [d1, d2, d3] }
  | _ => none }
def FnExactStripeCountWrongFalsely : Prop := fnExactStripeCountRow.holds Try.pinned (OpenSpec.ofChange fnExactStripeCountWrong)

/-- 'laws.FnExactGlobFits': WHATEVER THE INPUT: true; the input reads as it did. -/
def fnExactGlobFitsSpec : ChangeSpec := { name := "fnExactGlobFits", fn := fun _ => fun
  | [d1, d2] => { results := [.lit (.bool true)], args := [d1, d2] }
  | _ => none }
def fnExactGlobFitsRow : OpenClaim := { program := "ytjlbhjacjjkccaa", sum := "2aeab6f672583e22df553cbfa9a849572c47309b870f7ab5f4e64df8126f4ae4", func := "loop.example/g00020/laws.FnExactGlobFits", spec := "fnExactGlobFits", apart := false }
def FnExactGlobFitsSaid : Prop := fnExactGlobFitsRow.holds Try.pinned (OpenSpec.ofChange fnExactGlobFitsSpec)

/-- ITS FALSE NEIGHBOUR: 'it returns false'. Refute it at one input. -/
def fnExactGlobFitsWrong : ChangeSpec := { name := "fnExactGlobFits", fn := fun _ => fun
  | [d1, d2] => { results := [.lit (.bool false)], args := [d1, d2] }
  | _ => none }
def FnExactGlobFitsWrongFalsely : Prop := fnExactGlobFitsRow.holds Try.pinned (OpenSpec.ofChange fnExactGlobFitsWrong)

/-- 'laws.FnExactEscape': WHATEVER THE INPUT: true; the input reads as it did. -/
def fnExactEscapeSpec : ChangeSpec := { name := "fnExactEscape", fn := fun _ => fun
  | [d] => { results := [.lit (.bool true)], args := [d] }
  | _ => none }
def fnExactEscapeRow : OpenClaim := { program := "ytjlbhjacjjkccaa", sum := "2aeab6f672583e22df553cbfa9a849572c47309b870f7ab5f4e64df8126f4ae4", func := "loop.example/g00020/laws.FnExactEscape", spec := "fnExactEscape", apart := false }
def FnExactEscapeSaid : Prop := fnExactEscapeRow.holds Try.pinned (OpenSpec.ofChange fnExactEscapeSpec)

/-- ITS FALSE NEIGHBOUR: 'it returns false'. Refute it at one input. -/
def fnExactEscapeWrong : ChangeSpec := { name := "fnExactEscape", fn := fun _ => fun
  | [d] => { results := [.lit (.bool false)], args := [d] }
  | _ => none }
def FnExactEscapeWrongFalsely : Prop := fnExactEscapeRow.holds Try.pinned (OpenSpec.ofChange fnExactEscapeWrong)

/-- 'laws.FnExactMul16': WHATEVER THE INPUT: true; the input reads as it did. -/
def fnExactMul16Spec : ChangeSpec := { name := "fnExactMul16", fn := fun _ => fun
  | [d1, d2] => { results := [.lit (.bool true)], args := [d1, d2] }
  | _ => none }
def fnExactMul16Row : OpenClaim := { program := "ytjlbhjacjjkccaa", sum := "2aeab6f672583e22df553cbfa9a849572c47309b870f7ab5f4e64df8126f4ae4", func := "loop.example/g00020/laws.FnExactMul16", spec := "fnExactMul16", apart := false }
def FnExactMul16Said : Prop := fnExactMul16Row.holds Try.pinned (OpenSpec.ofChange fnExactMul16Spec)

/-- ITS FALSE NEIGHBOUR: 'it returns false'. Refute it at one input. -/
def fnExactMul16Wrong : ChangeSpec := { name := "fnExactMul16", fn := fun _ => fun
  | [d1, d2] => { results := [.lit (.bool false)], args := [d1, d2] }
  | _ => none }
def FnExactMul16WrongFalsely : Prop := fnExactMul16Row.holds Try.pinned (OpenSpec.ofChange fnExactMul16Wrong)

/-- 'laws.FnExactMul8': WHATEVER THE INPUT: true; the input reads as it did. -/
def fnExactMul8Spec : ChangeSpec := { name := "fnExactMul8", fn := fun _ => fun
  | [d1, d2] => { results := [.lit (.bool true)], args := [d1, d2] }
  | _ => none }
def fnExactMul8Row : OpenClaim := { program := "ytjlbhjacjjkccaa", sum := "2aeab6f672583e22df553cbfa9a849572c47309b870f7ab5f4e64df8126f4ae4", func := "loop.example/g00020/laws.FnExactMul8", spec := "fnExactMul8", apart := false }
def FnExactMul8Said : Prop := fnExactMul8Row.holds Try.pinned (OpenSpec.ofChange fnExactMul8Spec)

/-- ITS FALSE NEIGHBOUR: 'it returns false'. Refute it at one input. -/
def fnExactMul8Wrong : ChangeSpec := { name := "fnExactMul8", fn := fun _ => fun
  | [d1, d2] => { results := [.lit (.bool false)], args := [d1, d2] }
  | _ => none }
def FnExactMul8WrongFalsely : Prop := fnExactMul8Row.holds Try.pinned (OpenSpec.ofChange fnExactMul8Wrong)

/- THE SECOND FORM. 'bulk': how many values and letters a reading holds, each counted each time it is reached (what is shared counts as often as it is met; a slice's spare places count too). A statement '..UptoSaid' is the law's where the arguments, and the package variables that the reading takes, are together of bulk at most 1048576: NARROWER than '..Said'. Prove '..Said' where nothing that the law and all that it calls make is longer than what came in: it says more and counts as full. Else prove '..UptoSaid'. A law counts once. -/
mutual
def uptoBulk {H : Type} : DataW H → Nat
  | .lit (.string bytes) => bytes.length + 1
  | .lit _ => 1
  | .nil => 1
  | .ptr d => uptoBulk d + 1
  | .slice elems spare => uptoBulkAll elems + uptoBulkAll spare + 1
  | .agg parts => uptoBulkAll parts + 1
  | .iface _ d => uptoBulk d + 1
  | .map entries => uptoBulkEntries entries + 1
  | .held _ => 1
def uptoBulkAll {H : Type} : List (DataW H) → Nat
  | [] => 0
  | d :: r => uptoBulk d + uptoBulkAll r
def uptoBulkEntries {H : Type} : List (Lit × DataW H) → Nat
  | [] => 0
  | x :: r => uptoBulkEntry x + uptoBulkEntries r
def uptoBulkEntry {H : Type} : Lit × DataW H → Nat
  | (.string bytes, d) => bytes.length + uptoBulk d + 1
  | (_, d) => uptoBulk d + 1
 end
def uptoSmall : (H : Type) → List (DataW H) → Bool := fun _ ds => decide (uptoBulkAll ds ≤ 1048576)
def OpenSpec.upto (s : _root_.Go.ChangeSpec) : _root_.Go.OpenSpec := { _root_.Go.OpenSpec.ofChange s with cond := some uptoSmall }

/-- 'laws.FnExactConstants', WHERE WHAT IT READS IS OF BULK AT MOST 1048576: true; the input reads as it did. -/
def fnExactConstantsUptoRow : OpenClaim := { program := "ytjlbhjacjjkccaa", sum := "2aeab6f672583e22df553cbfa9a849572c47309b870f7ab5f4e64df8126f4ae4", func := "loop.example/g00020/laws.FnExactConstants", spec := "fnExactConstants", apart := false, narrowed := true }
def FnExactConstantsUptoSaid : Prop := fnExactConstantsUptoRow.holds Try.pinned (OpenSpec.upto fnExactConstantsSpec)

/-- 'laws.FnExactCodeFault', WHERE WHAT IT READS IS OF BULK AT MOST 1048576: true; the input reads as it did. -/
def fnExactCodeFaultUptoRow : OpenClaim := { program := "ytjlbhjacjjkccaa", sum := "2aeab6f672583e22df553cbfa9a849572c47309b870f7ab5f4e64df8126f4ae4", func := "loop.example/g00020/laws.FnExactCodeFault", spec := "fnExactCodeFault", apart := false, narrowed := true }
def FnExactCodeFaultUptoSaid : Prop := fnExactCodeFaultUptoRow.holds Try.pinned (OpenSpec.upto fnExactCodeFaultSpec)

/-- 'laws.FnExactSumOf', WHERE WHAT IT READS IS OF BULK AT MOST 1048576: true; the input reads as it did. -/
def fnExactSumOfUptoRow : OpenClaim := { program := "ytjlbhjacjjkccaa", sum := "2aeab6f672583e22df553cbfa9a849572c47309b870f7ab5f4e64df8126f4ae4", func := "loop.example/g00020/laws.FnExactSumOf", spec := "fnExactSumOf", apart := false, narrowed := true }
def FnExactSumOfUptoSaid : Prop := fnExactSumOfUptoRow.holds Try.pinned (OpenSpec.upto fnExactSumOfSpec)

/-- 'laws.FnExactHex', WHERE WHAT IT READS IS OF BULK AT MOST 1048576: true; the input reads as it did. -/
def fnExactHexUptoRow : OpenClaim := { program := "ytjlbhjacjjkccaa", sum := "2aeab6f672583e22df553cbfa9a849572c47309b870f7ab5f4e64df8126f4ae4", func := "loop.example/g00020/laws.FnExactHex", spec := "fnExactHex", apart := false, narrowed := true }
def FnExactHexUptoSaid : Prop := fnExactHexUptoRow.holds Try.pinned (OpenSpec.upto fnExactHexSpec)

/-- 'laws.FnExactPutNum', WHERE WHAT IT READS IS OF BULK AT MOST 1048576: true; the input reads as it did. -/
def fnExactPutNumUptoRow : OpenClaim := { program := "ytjlbhjacjjkccaa", sum := "2aeab6f672583e22df553cbfa9a849572c47309b870f7ab5f4e64df8126f4ae4", func := "loop.example/g00020/laws.FnExactPutNum", spec := "fnExactPutNum", apart := false, narrowed := true }
def FnExactPutNumUptoSaid : Prop := fnExactPutNumUptoRow.holds Try.pinned (OpenSpec.upto fnExactPutNumSpec)

/-- 'laws.FnExactCodeSize', WHERE WHAT IT READS IS OF BULK AT MOST 1048576: true; the input reads as it did. -/
def fnExactCodeSizeUptoRow : OpenClaim := { program := "ytjlbhjacjjkccaa", sum := "2aeab6f672583e22df553cbfa9a849572c47309b870f7ab5f4e64df8126f4ae4", func := "loop.example/g00020/laws.FnExactCodeSize", spec := "fnExactCodeSize", apart := false, narrowed := true }
def FnExactCodeSizeUptoSaid : Prop := fnExactCodeSizeUptoRow.holds Try.pinned (OpenSpec.upto fnExactCodeSizeSpec)

/-- 'laws.FnExactPutText', WHERE WHAT IT READS IS OF BULK AT MOST 1048576: true; the input reads as it did. -/
def fnExactPutTextUptoRow : OpenClaim := { program := "ytjlbhjacjjkccaa", sum := "2aeab6f672583e22df553cbfa9a849572c47309b870f7ab5f4e64df8126f4ae4", func := "loop.example/g00020/laws.FnExactPutText", spec := "fnExactPutText", apart := false, narrowed := true }
def FnExactPutTextUptoSaid : Prop := fnExactPutTextUptoRow.holds Try.pinned (OpenSpec.upto fnExactPutTextSpec)

/-- 'laws.FnExactStripeCount', WHERE WHAT IT READS IS OF BULK AT MOST 1048576: true; the input reads as it did. -/
def fnExactStripeCountUptoRow : OpenClaim := { program := "ytjlbhjacjjkccaa", sum := "2aeab6f672583e22df553cbfa9a849572c47309b870f7ab5f4e64df8126f4ae4", func := "loop.example/g00020/laws.FnExactStripeCount", spec := "fnExactStripeCount", apart := false, narrowed := true }
def FnExactStripeCountUptoSaid : Prop := fnExactStripeCountUptoRow.holds Try.pinned (OpenSpec.upto fnExactStripeCountSpec)

/-- 'laws.FnExactGlobFits', WHERE WHAT IT READS IS OF BULK AT MOST 1048576: true; the input reads as it did. -/
def fnExactGlobFitsUptoRow : OpenClaim := { program := "ytjlbhjacjjkccaa", sum := "2aeab6f672583e22df553cbfa9a849572c47309b870f7ab5f4e64df8126f4ae4", func := "loop.example/g00020/laws.FnExactGlobFits", spec := "fnExactGlobFits", apart := false, narrowed := true }
def FnExactGlobFitsUptoSaid : Prop := fnExactGlobFitsUptoRow.holds Try.pinned (OpenSpec.upto fnExactGlobFitsSpec)

/-- 'laws.FnExactEscape', WHERE WHAT IT READS IS OF BULK AT MOST 1048576: true; the input reads as it did. -/
def fnExactEscapeUptoRow : OpenClaim := { program := "ytjlbhjacjjkccaa", sum := "2aeab6f672583e22df553cbfa9a849572c47309b870f7ab5f4e64df8126f4ae4", func := "loop.example/g00020/laws.FnExactEscape", spec := "fnExactEscape", apart := false, narrowed := true }
def FnExactEscapeUptoSaid : Prop := fnExactEscapeUptoRow.holds Try.pinned (OpenSpec.upto fnExactEscapeSpec)

/-- 'laws.FnExactMul16', WHERE WHAT IT READS IS OF BULK AT MOST 1048576: true; the input reads as it did. -/
def fnExactMul16UptoRow : OpenClaim := { program := "ytjlbhjacjjkccaa", sum := "2aeab6f672583e22df553cbfa9a849572c47309b870f7ab5f4e64df8126f4ae4", func := "loop.example/g00020/laws.FnExactMul16", spec := "fnExactMul16", apart := false, narrowed := true }
def FnExactMul16UptoSaid : Prop := fnExactMul16UptoRow.holds Try.pinned (OpenSpec.upto fnExactMul16Spec)

/-- 'laws.FnExactMul8', WHERE WHAT IT READS IS OF BULK AT MOST 1048576: true; the input reads as it did. -/
def fnExactMul8UptoRow : OpenClaim := { program := "ytjlbhjacjjkccaa", sum := "2aeab6f672583e22df553cbfa9a849572c47309b870f7ab5f4e64df8126f4ae4", func := "loop.example/g00020/laws.FnExactMul8", spec := "fnExactMul8", apart := false, narrowed := true }
def FnExactMul8UptoSaid : Prop := fnExactMul8UptoRow.holds Try.pinned (OpenSpec.upto fnExactMul8Spec)

end Rows
end Go.Proofs.Ytjlbhjacjjkccaa
