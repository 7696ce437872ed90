/-
  No cell of these rows narrows 'for every input' (looked for: loops, veiled, ifaces, maps, wideKeys, modest, calm, conditions, laid).
  DERIVED. THE GIVEN ROWS OF THIS SEAT. 12 by the template 'for every input the law returns true; each argument reads behind the call as it read before'; 0 by the template 'total and deterministic' (their statements: YtnailhkgnccloaaTotals.lean).
  GIVEN WITH THE SEED: the statements are not yours to turn. If you find one false, say at which input.
  Laid BY PROGRAM, IN A SANDBOX (cutbox-rows.mjs): the forced cells as the released guide's own fill.sh prints them over the translation d9460d2b745ee43d… (all of the seat's roots in one cut). By AI agents, Wed Nov 11 2026. No macro, syntax, notation, axiom, sorry.
-/
import Derived.Test.YtnailhkgnccloaaChecked
import GoSem.Claim
import GoSem.ClaimJoined
import GoSem.ClaimMapViews
import Derived.JoinedTies
import Derived.KernelRfl
namespace Go.Proofs.Ytnailhkgnccloaa
/- THE CELL 'sum', in the pinned program and in every row, IS THE sha256 OF THE DUMP (.gsa) THAT YtnailhkgnccloaaProg.lean LOADS. Nothing in Lean hashes anything: it is a label: what it is worth is what the hold of that sum in a sandbox is worth. -/
noncomputable def Try.pinned : Pinned := { name := "ytnailhkgnccloaa", sum := "d9460d2b745ee43d63256d7291ee4684501ef23f2b60de72ee87747805198373", checked := Try.checked }
namespace Rows
def none {H : Type} : Left H := { results := [], args := [] }

/-- 'laws.FnExactUnHex': WHATEVER THE INPUT: true; the input reads as it did. -/
def fnExactUnHexSpec : ChangeSpec := { name := "fnExactUnHex", fn := fun _ => fun
  | [d] => { results := [.lit (.bool true)], args := [d] }
  | _ => none }
def fnExactUnHexRow : OpenClaim := { program := "ytnailhkgnccloaa", sum := "d9460d2b745ee43d63256d7291ee4684501ef23f2b60de72ee87747805198373", func := "loop.example/g00020/laws.FnExactUnHex", spec := "fnExactUnHex", apart := false }
def FnExactUnHexSaid : Prop := fnExactUnHexRow.holds Try.pinned (OpenSpec.ofChange fnExactUnHexSpec)

/-- ITS FALSE NEIGHBOUR: 'it returns false'. Refute it at one input. -/
def fnExactUnHexWrong : ChangeSpec := { name := "fnExactUnHex", fn := fun _ => fun
  | [d] => { results := [.lit (.bool false)], args := [d] }
  | _ => none }
def FnExactUnHexWrongFalsely : Prop := fnExactUnHexRow.holds Try.pinned (OpenSpec.ofChange fnExactUnHexWrong)

/-- 'laws.FnExactMixOf': WHATEVER THE INPUT: true; the input reads as it did. -/
def fnExactMixOfSpec : ChangeSpec := { name := "fnExactMixOf", fn := fun _ => fun
  | [d1, d2, d3] => { results := [.lit (.bool true)], args := [d1, d2, d3] }
  | _ => none }
def fnExactMixOfRow : OpenClaim := { program := "ytnailhkgnccloaa", sum := "d9460d2b745ee43d63256d7291ee4684501ef23f2b60de72ee87747805198373", func := "loop.example/g00020/laws.FnExactMixOf", spec := "fnExactMixOf", apart := false }
def FnExactMixOfSaid : Prop := fnExactMixOfRow.holds Try.pinned (OpenSpec.ofChange fnExactMixOfSpec)

/-- ITS FALSE NEIGHBOUR: 'it returns false'. Refute it at one input. -/
def fnExactMixOfWrong : ChangeSpec := { name := "fnExactMixOf", fn := fun _ => fun
  | [d1, d2, d3] => { results := [.lit (.bool false)], args := [d1, d2, d3] }
  | _ => none }
def FnExactMixOfWrongFalsely : Prop := fnExactMixOfRow.holds Try.pinned (OpenSpec.ofChange fnExactMixOfWrong)

/-- 'laws.FnExactNodesFault': WHATEVER THE INPUT: true; the input reads as it did. -/
def fnExactNodesFaultSpec : ChangeSpec := { name := "fnExactNodesFault", fn := fun _ => fun
  | [d] => { results := [.lit (.bool true)], args := [d] }
  | _ => none }
def fnExactNodesFaultRow : OpenClaim := { program := "ytnailhkgnccloaa", sum := "d9460d2b745ee43d63256d7291ee4684501ef23f2b60de72ee87747805198373", func := "loop.example/g00020/laws.FnExactNodesFault", spec := "fnExactNodesFault", apart := false }
def FnExactNodesFaultSaid : Prop := fnExactNodesFaultRow.holds Try.pinned (OpenSpec.ofChange fnExactNodesFaultSpec)

/-- ITS FALSE NEIGHBOUR: 'it returns false'. Refute it at one input. -/
def fnExactNodesFaultWrong : ChangeSpec := { name := "fnExactNodesFault", fn := fun _ => fun
  | [d] => { results := [.lit (.bool false)], args := [d] }
  | _ => none }
def FnExactNodesFaultWrongFalsely : Prop := fnExactNodesFaultRow.holds Try.pinned (OpenSpec.ofChange fnExactNodesFaultWrong)

/-- 'laws.FnExactInv8': WHATEVER THE INPUT: true; the input reads as it did. -/
def fnExactInv8Spec : ChangeSpec := { name := "fnExactInv8", fn := fun _ => fun
  | [d] => { results := [.lit (.bool true)], args := [d] }
  | _ => none }
def fnExactInv8Row : OpenClaim := { program := "ytnailhkgnccloaa", sum := "d9460d2b745ee43d63256d7291ee4684501ef23f2b60de72ee87747805198373", func := "loop.example/g00020/laws.FnExactInv8", spec := "fnExactInv8", apart := false }
def FnExactInv8Said : Prop := fnExactInv8Row.holds Try.pinned (OpenSpec.ofChange fnExactInv8Spec)

/-- ITS FALSE NEIGHBOUR: 'it returns false'. Refute it at one input. -/
def fnExactInv8Wrong : ChangeSpec := { name := "fnExactInv8", fn := fun _ => fun
  | [d] => { results := [.lit (.bool false)], args := [d] }
  | _ => none }
def FnExactInv8WrongFalsely : Prop := fnExactInv8Row.holds Try.pinned (OpenSpec.ofChange fnExactInv8Wrong)

/-- 'laws.FnExactPow8': WHATEVER THE INPUT: true; the input reads as it did. -/
def fnExactPow8Spec : ChangeSpec := { name := "fnExactPow8", fn := fun _ => fun
  | [d1, d2] => { results := [.lit (.bool true)], args := [d1, d2] }
  | _ => none }
def fnExactPow8Row : OpenClaim := { program := "ytnailhkgnccloaa", sum := "d9460d2b745ee43d63256d7291ee4684501ef23f2b60de72ee87747805198373", func := "loop.example/g00020/laws.FnExactPow8", spec := "fnExactPow8", apart := false }
def FnExactPow8Said : Prop := fnExactPow8Row.holds Try.pinned (OpenSpec.ofChange fnExactPow8Spec)

/-- ITS FALSE NEIGHBOUR: 'it returns false'. Refute it at one input. -/
def fnExactPow8Wrong : ChangeSpec := { name := "fnExactPow8", fn := fun _ => fun
  | [d1, d2] => { results := [.lit (.bool false)], args := [d1, d2] }
  | _ => none }
def FnExactPow8WrongFalsely : Prop := fnExactPow8Row.holds Try.pinned (OpenSpec.ofChange fnExactPow8Wrong)

/-- 'laws.FnExactInv16': WHATEVER THE INPUT: true; the input reads as it did. -/
def fnExactInv16Spec : ChangeSpec := { name := "fnExactInv16", fn := fun _ => fun
  | [d] => { results := [.lit (.bool true)], args := [d] }
  | _ => none }
def fnExactInv16Row : OpenClaim := { program := "ytnailhkgnccloaa", sum := "d9460d2b745ee43d63256d7291ee4684501ef23f2b60de72ee87747805198373", func := "loop.example/g00020/laws.FnExactInv16", spec := "fnExactInv16", apart := false }
def FnExactInv16Said : Prop := fnExactInv16Row.holds Try.pinned (OpenSpec.ofChange fnExactInv16Spec)

/-- ITS FALSE NEIGHBOUR: 'it returns false'. Refute it at one input. -/
def fnExactInv16Wrong : ChangeSpec := { name := "fnExactInv16", fn := fun _ => fun
  | [d] => { results := [.lit (.bool false)], args := [d] }
  | _ => none }
def FnExactInv16WrongFalsely : Prop := fnExactInv16Row.holds Try.pinned (OpenSpec.ofChange fnExactInv16Wrong)

/-- 'laws.FnExactMatrixFault': WHATEVER THE INPUT: true; the input reads as it did. -/
def fnExactMatrixFaultSpec : ChangeSpec := { name := "fnExactMatrixFault", fn := fun _ => fun
  | [d] => { results := [.lit (.bool true)], args := [d] }
  | _ => none }
def fnExactMatrixFaultRow : OpenClaim := { program := "ytnailhkgnccloaa", sum := "d9460d2b745ee43d63256d7291ee4684501ef23f2b60de72ee87747805198373", func := "loop.example/g00020/laws.FnExactMatrixFault", spec := "fnExactMatrixFault", apart := false }
def FnExactMatrixFaultSaid : Prop := fnExactMatrixFaultRow.holds Try.pinned (OpenSpec.ofChange fnExactMatrixFaultSpec)

/-- ITS FALSE NEIGHBOUR: 'it returns false'. Refute it at one input. -/
def fnExactMatrixFaultWrong : ChangeSpec := { name := "fnExactMatrixFault", fn := fun _ => fun
  | [d] => { results := [.lit (.bool false)], args := [d] }
  | _ => none }
def FnExactMatrixFaultWrongFalsely : Prop := fnExactMatrixFaultRow.holds Try.pinned (OpenSpec.ofChange fnExactMatrixFaultWrong)

/-- 'laws.FnExactStreamOf': WHATEVER THE INPUT: true; the input reads as it did. -/
def fnExactStreamOfSpec : ChangeSpec := { name := "fnExactStreamOf", fn := fun _ => fun
  | [d1, d2, d3] => { results := [.lit (.bool true)], args := [d1, d2, d3] }
  | _ => none }
def fnExactStreamOfRow : OpenClaim := { program := "ytnailhkgnccloaa", sum := "d9460d2b745ee43d63256d7291ee4684501ef23f2b60de72ee87747805198373", func := "loop.example/g00020/laws.FnExactStreamOf", spec := "fnExactStreamOf", unfollowed := true, recurses := true, apart := false }
def FnExactStreamOfSaid : Prop := fnExactStreamOfRow.holds Try.pinned (OpenSpec.ofChange fnExactStreamOfSpec)

/-- ITS FALSE NEIGHBOUR: 'it returns false'. Refute it at one input. -/
def fnExactStreamOfWrong : ChangeSpec := { name := "fnExactStreamOf", fn := fun _ => fun
  | [d1, d2, d3] => { results := [.lit (.bool false)], args := [d1, d2, d3] }
  | _ => none }
def FnExactStreamOfWrongFalsely : Prop := fnExactStreamOfRow.holds Try.pinned (OpenSpec.ofChange fnExactStreamOfWrong)

/-- 'laws.FnExactGetNum': WHATEVER THE INPUT: true; the input reads as it did. -/
def fnExactGetNumSpec : ChangeSpec := { name := "fnExactGetNum", fn := fun _ => fun
  | [d1, d2] => { results := [.lit (.bool true)], args := [d1, d2] }
  | _ => none }
def fnExactGetNumRow : OpenClaim := { program := "ytnailhkgnccloaa", sum := "d9460d2b745ee43d63256d7291ee4684501ef23f2b60de72ee87747805198373", func := "loop.example/g00020/laws.FnExactGetNum", spec := "fnExactGetNum", apart := false }
def FnExactGetNumSaid : Prop := fnExactGetNumRow.holds Try.pinned (OpenSpec.ofChange fnExactGetNumSpec)

/-- ITS FALSE NEIGHBOUR: 'it returns false'. Refute it at one input. -/
def fnExactGetNumWrong : ChangeSpec := { name := "fnExactGetNum", fn := fun _ => fun
  | [d1, d2] => { results := [.lit (.bool false)], args := [d1, d2] }
  | _ => none }
def FnExactGetNumWrongFalsely : Prop := fnExactGetNumRow.holds Try.pinned (OpenSpec.ofChange fnExactGetNumWrong)

/-- 'laws.FnExactPutRecord': WHATEVER THE INPUT: true; the input reads as it did. -/
def fnExactPutRecordSpec : ChangeSpec := { name := "fnExactPutRecord", fn := fun _ => fun
  | [d1, d2, d3] => { results := [.lit (.bool true)], args := [d1, d2, d3] }
  | _ => none }
def fnExactPutRecordRow : OpenClaim := { program := "ytnailhkgnccloaa", sum := "d9460d2b745ee43d63256d7291ee4684501ef23f2b60de72ee87747805198373", func := "loop.example/g00020/laws.FnExactPutRecord", spec := "fnExactPutRecord", apart := false }
def FnExactPutRecordSaid : Prop := fnExactPutRecordRow.holds Try.pinned (OpenSpec.ofChange fnExactPutRecordSpec)

/-- ITS FALSE NEIGHBOUR: 'it returns false'. Refute it at one input. -/
def fnExactPutRecordWrong : ChangeSpec := { name := "fnExactPutRecord", fn := fun _ => fun
  | [d1, d2, d3] => { results := [.lit (.bool false)], args := [d1, d2, d3] }
  | _ => none }
def FnExactPutRecordWrongFalsely : Prop := fnExactPutRecordRow.holds Try.pinned (OpenSpec.ofChange fnExactPutRecordWrong)

/-- 'laws.FnExactUnEscape': WHATEVER THE INPUT: true; the input reads as it did. -/
def fnExactUnEscapeSpec : ChangeSpec := { name := "fnExactUnEscape", fn := fun _ => fun
  | [d] => { results := [.lit (.bool true)], args := [d] }
  | _ => none }
def fnExactUnEscapeRow : OpenClaim := { program := "ytnailhkgnccloaa", sum := "d9460d2b745ee43d63256d7291ee4684501ef23f2b60de72ee87747805198373", func := "loop.example/g00020/laws.FnExactUnEscape", spec := "fnExactUnEscape", apart := false }
def FnExactUnEscapeSaid : Prop := fnExactUnEscapeRow.holds Try.pinned (OpenSpec.ofChange fnExactUnEscapeSpec)

/-- ITS FALSE NEIGHBOUR: 'it returns false'. Refute it at one input. -/
def fnExactUnEscapeWrong : ChangeSpec := { name := "fnExactUnEscape", fn := fun _ => fun
  | [d] => { results := [.lit (.bool false)], args := [d] }
  | _ => none }
def FnExactUnEscapeWrongFalsely : Prop := fnExactUnEscapeRow.holds Try.pinned (OpenSpec.ofChange fnExactUnEscapeWrong)

/-- 'laws.FnExactSealObject': WHATEVER THE INPUT: true; the input reads as it did. -/
def fnExactSealObjectSpec : ChangeSpec := { name := "fnExactSealObject", fn := fun _ => fun
  | [d1, d2, d3, d4] => { results := [.lit (.bool true)], args := [d1, d2, d3, d4] }
  | _ => none }
def fnExactSealObjectRow : OpenClaim := { program := "ytnailhkgnccloaa", sum := "d9460d2b745ee43d63256d7291ee4684501ef23f2b60de72ee87747805198373", func := "loop.example/g00020/laws.FnExactSealObject", spec := "fnExactSealObject", unfollowed := true, recurses := true, apart := false }
def FnExactSealObjectSaid : Prop := fnExactSealObjectRow.holds Try.pinned (OpenSpec.ofChange fnExactSealObjectSpec)

/-- ITS FALSE NEIGHBOUR: 'it returns false'. Refute it at one input. -/
def fnExactSealObjectWrong : ChangeSpec := { name := "fnExactSealObject", fn := fun _ => fun
  | [d1, d2, d3, d4] => { results := [.lit (.bool false)], args := [d1, d2, d3, d4] }
  | _ => none }
def FnExactSealObjectWrongFalsely : Prop := fnExactSealObjectRow.holds Try.pinned (OpenSpec.ofChange fnExactSealObjectWrong)

/- THE SECOND FORM. 'bulk': how many values and letters a reading holds, each counted each time it is reached (what is shared counts as often as it is met; a slice's spare places count too). A statement '..UptoSaid' is the law's where the arguments, and the package variables that the reading takes, are together of bulk at most 1048576: NARROWER than '..Said'. Prove '..Said' where nothing that the law and all that it calls make is longer than what came in: it says more and counts as full. Else prove '..UptoSaid'. A law counts once. -/
mutual
def uptoBulk {H : Type} : DataW H → Nat
  | .lit (.string bytes) => bytes.length + 1
  | .lit _ => 1
  | .nil => 1
  | .ptr d => uptoBulk d + 1
  | .slice elems spare => uptoBulkAll elems + uptoBulkAll spare + 1
  | .agg parts => uptoBulkAll parts + 1
  | .iface _ d => uptoBulk d + 1
  | .map entries => uptoBulkEntries entries + 1
  | .held _ => 1
def uptoBulkAll {H : Type} : List (DataW H) → Nat
  | [] => 0
  | d :: r => uptoBulk d + uptoBulkAll r
def uptoBulkEntries {H : Type} : List (Lit × DataW H) → Nat
  | [] => 0
  | x :: r => uptoBulkEntry x + uptoBulkEntries r
def uptoBulkEntry {H : Type} : Lit × DataW H → Nat
  | (.string bytes, d) => bytes.length + uptoBulk d + 1
  | (_, d) => uptoBulk d + 1
 end
def uptoSmall : (H : Type) → List (DataW H) → Bool := fun _ ds => decide (uptoBulkAll ds ≤ 1048576)
def OpenSpec.upto (s : _root_.Go.ChangeSpec) : _root_.Go.OpenSpec := { _root_.Go.OpenSpec.ofChange s with cond := some uptoSmall }

/-- 'laws.FnExactUnHex', WHERE WHAT IT READS IS OF BULK AT MOST 1048576: true; the input reads as it did. -/
def fnExactUnHexUptoRow : OpenClaim := { program := "ytnailhkgnccloaa", sum := "d9460d2b745ee43d63256d7291ee4684501ef23f2b60de72ee87747805198373", func := "loop.example/g00020/laws.FnExactUnHex", spec := "fnExactUnHex", apart := false, narrowed := true }
def FnExactUnHexUptoSaid : Prop := fnExactUnHexUptoRow.holds Try.pinned (OpenSpec.upto fnExactUnHexSpec)

/-- 'laws.FnExactMixOf', WHERE WHAT IT READS IS OF BULK AT MOST 1048576: true; the input reads as it did. -/
def fnExactMixOfUptoRow : OpenClaim := { program := "ytnailhkgnccloaa", sum := "d9460d2b745ee43d63256d7291ee4684501ef23f2b60de72ee87747805198373", func := "loop.example/g00020/laws.FnExactMixOf", spec := "fnExactMixOf", apart := false, narrowed := true }
def FnExactMixOfUptoSaid : Prop := fnExactMixOfUptoRow.holds Try.pinned (OpenSpec.upto fnExactMixOfSpec)

/-- 'laws.FnExactNodesFault', WHERE WHAT IT READS IS OF BULK AT MOST 1048576: true; the input reads as it did. -/
def fnExactNodesFaultUptoRow : OpenClaim := { program := "ytnailhkgnccloaa", sum := "d9460d2b745ee43d63256d7291ee4684501ef23f2b60de72ee87747805198373", func := "loop.example/g00020/laws.FnExactNodesFault", spec := "fnExactNodesFault", apart := false, narrowed := true }
def FnExactNodesFaultUptoSaid : Prop := fnExactNodesFaultUptoRow.holds Try.pinned (OpenSpec.upto fnExactNodesFaultSpec)

/-- 'laws.FnExactInv8', WHERE WHAT IT READS IS OF BULK AT MOST 1048576: true; the input reads as it did. -/
def fnExactInv8UptoRow : OpenClaim := { program := "ytnailhkgnccloaa", sum := "d9460d2b745ee43d63256d7291ee4684501ef23f2b60de72ee87747805198373", func := "loop.example/g00020/laws.FnExactInv8", spec := "fnExactInv8", apart := false, narrowed := true }
def FnExactInv8UptoSaid : Prop := fnExactInv8UptoRow.holds Try.pinned (OpenSpec.upto fnExactInv8Spec)

/-- 'laws.FnExactPow8', WHERE WHAT IT READS IS OF BULK AT MOST 1048576: true; the input reads as it did. -/
def fnExactPow8UptoRow : OpenClaim := { program := "ytnailhkgnccloaa", sum := "d9460d2b745ee43d63256d7291ee4684501ef23f2b60de72ee87747805198373", func := "loop.example/g00020/laws.FnExactPow8", spec := "fnExactPow8", apart := false, narrowed := true }
def FnExactPow8UptoSaid : Prop := fnExactPow8UptoRow.holds Try.pinned (OpenSpec.upto fnExactPow8Spec)

/-- 'laws.FnExactInv16', WHERE WHAT IT READS IS OF BULK AT MOST 1048576: true; the input reads as it did. -/
def fnExactInv16UptoRow : OpenClaim := { program := "ytnailhkgnccloaa", sum := "d9460d2b745ee43d63256d7291ee4684501ef23f2b60de72ee87747805198373", func := "loop.example/g00020/laws.FnExactInv16", spec := "fnExactInv16", apart := false, narrowed := true }
def FnExactInv16UptoSaid : Prop := fnExactInv16UptoRow.holds Try.pinned (OpenSpec.upto fnExactInv16Spec)

/-- 'laws.FnExactMatrixFault', WHERE WHAT IT READS IS OF BULK AT MOST 1048576: true; the input reads as it did. -/
def fnExactMatrixFaultUptoRow : OpenClaim := { program := "ytnailhkgnccloaa", sum := "d9460d2b745ee43d63256d7291ee4684501ef23f2b60de72ee87747805198373", func := "loop.example/g00020/laws.FnExactMatrixFault", spec := "fnExactMatrixFault", apart := false, narrowed := true }
def FnExactMatrixFaultUptoSaid : Prop := fnExactMatrixFaultUptoRow.holds Try.pinned (OpenSpec.upto fnExactMatrixFaultSpec)

/-- 'laws.FnExactStreamOf', WHERE WHAT IT READS IS OF BULK AT MOST 1048576: true; the input reads as it did. -/
def fnExactStreamOfUptoRow : OpenClaim := { program := "ytnailhkgnccloaa", sum := "d9460d2b745ee43d63256d7291ee4684501ef23f2b60de72ee87747805198373", func := "loop.example/g00020/laws.FnExactStreamOf", spec := "fnExactStreamOf", unfollowed := true, recurses := true, apart := false, narrowed := true }
def FnExactStreamOfUptoSaid : Prop := fnExactStreamOfUptoRow.holds Try.pinned (OpenSpec.upto fnExactStreamOfSpec)

/-- 'laws.FnExactGetNum', WHERE WHAT IT READS IS OF BULK AT MOST 1048576: true; the input reads as it did. -/
def fnExactGetNumUptoRow : OpenClaim := { program := "ytnailhkgnccloaa", sum := "d9460d2b745ee43d63256d7291ee4684501ef23f2b60de72ee87747805198373", func := "loop.example/g00020/laws.FnExactGetNum", spec := "fnExactGetNum", apart := false, narrowed := true }
def FnExactGetNumUptoSaid : Prop := fnExactGetNumUptoRow.holds Try.pinned (OpenSpec.upto fnExactGetNumSpec)

/-- 'laws.FnExactPutRecord', WHERE WHAT IT READS IS OF BULK AT MOST 1048576: true; the input reads as it did. -/
def fnExactPutRecordUptoRow : OpenClaim := { program := "ytnailhkgnccloaa", sum := "d9460d2b745ee43d63256d7291ee4684501ef23f2b60de72ee87747805198373", func := "loop.example/g00020/laws.FnExactPutRecord", spec := "fnExactPutRecord", apart := false, narrowed := true }
def FnExactPutRecordUptoSaid : Prop := fnExactPutRecordUptoRow.holds Try.pinned (OpenSpec.upto fnExactPutRecordSpec)

/-- 'laws.FnExactUnEscape', WHERE WHAT IT READS IS OF BULK AT MOST 1048576: true; the input reads as it did. -/
def fnExactUnEscapeUptoRow : OpenClaim := { program := "ytnailhkgnccloaa", sum := "d9460d2b745ee43d63256d7291ee4684501ef23f2b60de72ee87747805198373", func := "loop.example/g00020/laws.FnExactUnEscape", spec := "fnExactUnEscape", apart := false, narrowed := true }
def FnExactUnEscapeUptoSaid : Prop := fnExactUnEscapeUptoRow.holds Try.pinned (OpenSpec.upto fnExactUnEscapeSpec)

/-- 'laws.FnExactSealObject', WHERE WHAT IT READS IS OF BULK AT MOST 1048576: true; the input reads as it did. -/
def fnExactSealObjectUptoRow : OpenClaim := { program := "ytnailhkgnccloaa", sum := "d9460d2b745ee43d63256d7291ee4684501ef23f2b60de72ee87747805198373", func := "loop.example/g00020/laws.FnExactSealObject", spec := "fnExactSealObject", unfollowed := true, recurses := true, apart := false, narrowed := true }
def FnExactSealObjectUptoSaid : Prop := fnExactSealObjectUptoRow.holds Try.pinned (OpenSpec.upto fnExactSealObjectSpec)

end Rows
end Go.Proofs.Ytnailhkgnccloaa
