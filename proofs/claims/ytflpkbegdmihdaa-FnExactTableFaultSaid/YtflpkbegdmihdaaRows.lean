/-
  No cell of these rows narrows 'for every input' (looked for: loops, veiled, ifaces, maps, wideKeys, modest, calm, conditions, laid).
  DERIVED. THE GIVEN ROWS OF THIS SEAT. 7 by the template 'for every input the law returns true; each argument reads behind the call as it read before'; 0 by the template 'total and deterministic' (their statements: YtflpkbegdmihdaaTotals.lean).
  GIVEN WITH THE SEED: the statements are not yours to turn. If you find one false, say at which input.
  Laid BY PROGRAM, IN A SANDBOX (cutbox-rows.mjs): the forced cells as the released guide's own fill.sh prints them over the translation e15d39f63e3183d3… (all of the seat's roots in one cut). By AI agents, Wed Nov 11 2026. No macro, syntax, notation, axiom, sorry.
-/
import Derived.Test.YtflpkbegdmihdaaChecked
import GoSem.Claim
import GoSem.ClaimJoined
import GoSem.ClaimMapViews
import Derived.JoinedTies
import Derived.KernelRfl
namespace Go.Proofs.Ytflpkbegdmihdaa
/- THE CELL 'sum', in the pinned program and in every row, IS THE sha256 OF THE DUMP (.gsa) THAT YtflpkbegdmihdaaProg.lean LOADS. Nothing in Lean hashes anything: it is a label: what it is worth is what the hold of that sum in a sandbox is worth. -/
noncomputable def Try.pinned : Pinned := { name := "ytflpkbegdmihdaa", sum := "e15d39f63e3183d3f04949196ce2fb2f2eced32495bebf4180b6d510b39892be", checked := Try.checked }
namespace Rows
def none {H : Type} : Left H := { results := [], args := [] }

/-- 'laws.FnRanges': WHATEVER THE INPUT: true; the input reads as it did. -/
def fnRangesSpec : ChangeSpec := { name := "fnRanges", fn := fun _ => fun
  | [d1, d2] => { results := [.lit (.bool true)], args := [d1, d2] }
  | _ => none }
def fnRangesRow : OpenClaim := { program := "ytflpkbegdmihdaa", sum := "e15d39f63e3183d3f04949196ce2fb2f2eced32495bebf4180b6d510b39892be", func := "loop.example/g00020/laws.FnRanges", spec := "fnRanges", unfollowed := true, recurses := true, apart := false }
def FnRangesSaid : Prop := fnRangesRow.holds Try.pinned (OpenSpec.ofChange fnRangesSpec)

/-- ITS FALSE NEIGHBOUR: 'it returns false'. Refute it at one input. -/
def fnRangesWrong : ChangeSpec := { name := "fnRanges", fn := fun _ => fun
  | [d1, d2] => { results := [.lit (.bool false)], args := [d1, d2] }
  | _ => none }
def FnRangesWrongFalsely : Prop := fnRangesRow.holds Try.pinned (OpenSpec.ofChange fnRangesWrong)

/-- 'laws.FnExactTableFault': WHATEVER THE INPUT: true; the input reads as it did. -/
def fnExactTableFaultSpec : ChangeSpec := { name := "fnExactTableFault", fn := fun _ => fun
  | [d] => { results := [.lit (.bool true)], args := [d] }
  | _ => none }
def fnExactTableFaultRow : OpenClaim := { program := "ytflpkbegdmihdaa", sum := "e15d39f63e3183d3f04949196ce2fb2f2eced32495bebf4180b6d510b39892be", func := "loop.example/g00020/laws.FnExactTableFault", spec := "fnExactTableFault", apart := false }
def FnExactTableFaultSaid : Prop := fnExactTableFaultRow.holds Try.pinned (OpenSpec.ofChange fnExactTableFaultSpec)

/-- ITS FALSE NEIGHBOUR: 'it returns false'. Refute it at one input. -/
def fnExactTableFaultWrong : ChangeSpec := { name := "fnExactTableFault", fn := fun _ => fun
  | [d] => { results := [.lit (.bool false)], args := [d] }
  | _ => none }
def FnExactTableFaultWrongFalsely : Prop := fnExactTableFaultRow.holds Try.pinned (OpenSpec.ofChange fnExactTableFaultWrong)

/-- 'laws.FnExactPolicyFault': WHATEVER THE INPUT: true; the input reads as it did. -/
def fnExactPolicyFaultSpec : ChangeSpec := { name := "fnExactPolicyFault", fn := fun _ => fun
  | [d] => { results := [.lit (.bool true)], args := [d] }
  | _ => none }
def fnExactPolicyFaultRow : OpenClaim := { program := "ytflpkbegdmihdaa", sum := "e15d39f63e3183d3f04949196ce2fb2f2eced32495bebf4180b6d510b39892be", func := "loop.example/g00020/laws.FnExactPolicyFault", spec := "fnExactPolicyFault", apart := false }
def FnExactPolicyFaultSaid : Prop := fnExactPolicyFaultRow.holds Try.pinned (OpenSpec.ofChange fnExactPolicyFaultSpec)

/-- ITS FALSE NEIGHBOUR: 'it returns false'. Refute it at one input. -/
def fnExactPolicyFaultWrong : ChangeSpec := { name := "fnExactPolicyFault", fn := fun _ => fun
  | [d] => { results := [.lit (.bool false)], args := [d] }
  | _ => none }
def FnExactPolicyFaultWrongFalsely : Prop := fnExactPolicyFaultRow.holds Try.pinned (OpenSpec.ofChange fnExactPolicyFaultWrong)

/-- 'laws.FnExactEncodeShards': WHATEVER THE INPUT: true; the input reads as it did. -/
def fnExactEncodeShardsSpec : ChangeSpec := { name := "fnExactEncodeShards", fn := fun _ => fun
  | [d1, d2] => { results := [.lit (.bool true)], args := [d1, d2] }
  | _ => none }
def fnExactEncodeShardsRow : OpenClaim := { program := "ytflpkbegdmihdaa", sum := "e15d39f63e3183d3f04949196ce2fb2f2eced32495bebf4180b6d510b39892be", func := "loop.example/g00020/laws.FnExactEncodeShards", spec := "fnExactEncodeShards", apart := false }
def FnExactEncodeShardsSaid : Prop := fnExactEncodeShardsRow.holds Try.pinned (OpenSpec.ofChange fnExactEncodeShardsSpec)

/-- ITS FALSE NEIGHBOUR: 'it returns false'. Refute it at one input. -/
def fnExactEncodeShardsWrong : ChangeSpec := { name := "fnExactEncodeShards", fn := fun _ => fun
  | [d1, d2] => { results := [.lit (.bool false)], args := [d1, d2] }
  | _ => none }
def FnExactEncodeShardsWrongFalsely : Prop := fnExactEncodeShardsRow.holds Try.pinned (OpenSpec.ofChange fnExactEncodeShardsWrong)

/-- 'laws.FnExactSplitObject': WHATEVER THE INPUT: true; the input reads as it did. -/
def fnExactSplitObjectSpec : ChangeSpec := { name := "fnExactSplitObject", fn := fun _ => fun
  | [d1, d2, d3] => { results := [.lit (.bool true)], args := [d1, d2, d3] }
  | _ => none }
def fnExactSplitObjectRow : OpenClaim := { program := "ytflpkbegdmihdaa", sum := "e15d39f63e3183d3f04949196ce2fb2f2eced32495bebf4180b6d510b39892be", func := "loop.example/g00020/laws.FnExactSplitObject", spec := "fnExactSplitObject", apart := false }
def FnExactSplitObjectSaid : Prop := fnExactSplitObjectRow.holds Try.pinned (OpenSpec.ofChange fnExactSplitObjectSpec)

/-- ITS FALSE NEIGHBOUR: 'it returns false'. Refute it at one input. -/
def fnExactSplitObjectWrong : ChangeSpec := { name := "fnExactSplitObject", fn := fun _ => fun
  | [d1, d2, d3] => { results := [.lit (.bool false)], args := [d1, d2, d3] }
  | _ => none }
def FnExactSplitObjectWrongFalsely : Prop := fnExactSplitObjectRow.holds Try.pinned (OpenSpec.ofChange fnExactSplitObjectWrong)

/-- 'laws.FnExactRepairPlan': WHATEVER THE INPUT: true; the input reads as it did. -/
def fnExactRepairPlanSpec : ChangeSpec := { name := "fnExactRepairPlan", fn := fun _ => fun
  | [d1, d2, d3] => { results := [.lit (.bool true)], args := [d1, d2, d3] }
  | _ => none }
def fnExactRepairPlanRow : OpenClaim := { program := "ytflpkbegdmihdaa", sum := "e15d39f63e3183d3f04949196ce2fb2f2eced32495bebf4180b6d510b39892be", func := "loop.example/g00020/laws.FnExactRepairPlan", spec := "fnExactRepairPlan", apart := false }
def FnExactRepairPlanSaid : Prop := fnExactRepairPlanRow.holds Try.pinned (OpenSpec.ofChange fnExactRepairPlanSpec)

/-- ITS FALSE NEIGHBOUR: 'it returns false'. Refute it at one input. -/
def fnExactRepairPlanWrong : ChangeSpec := { name := "fnExactRepairPlan", fn := fun _ => fun
  | [d1, d2, d3] => { results := [.lit (.bool false)], args := [d1, d2, d3] }
  | _ => none }
def FnExactRepairPlanWrongFalsely : Prop := fnExactRepairPlanRow.holds Try.pinned (OpenSpec.ofChange fnExactRepairPlanWrong)

/-- 'laws.FnExactJudge': WHATEVER THE INPUT: true; the input reads as it did. -/
def fnExactJudgeSpec : ChangeSpec := { name := "fnExactJudge", fn := fun _ => fun
  | [d1, d2] => { results := [.lit (.bool true)], args := [d1, d2] }
  | _ => none }
def fnExactJudgeRow : OpenClaim := { program := "ytflpkbegdmihdaa", sum := "e15d39f63e3183d3f04949196ce2fb2f2eced32495bebf4180b6d510b39892be", func := "loop.example/g00020/laws.FnExactJudge", spec := "fnExactJudge", unfollowed := true, recurses := true, apart := false }
def FnExactJudgeSaid : Prop := fnExactJudgeRow.holds Try.pinned (OpenSpec.ofChange fnExactJudgeSpec)

/-- ITS FALSE NEIGHBOUR: 'it returns false'. Refute it at one input. -/
def fnExactJudgeWrong : ChangeSpec := { name := "fnExactJudge", fn := fun _ => fun
  | [d1, d2] => { results := [.lit (.bool false)], args := [d1, d2] }
  | _ => none }
def FnExactJudgeWrongFalsely : Prop := fnExactJudgeRow.holds Try.pinned (OpenSpec.ofChange fnExactJudgeWrong)

/- THE SECOND FORM. 'bulk': how many values and letters a reading holds, each counted each time it is reached (what is shared counts as often as it is met; a slice's spare places count too). A statement '..UptoSaid' is the law's where the arguments, and the package variables that the reading takes, are together of bulk at most 1048576: NARROWER than '..Said'. Prove '..Said' where nothing that the law and all that it calls make is longer than what came in: it says more and counts as full. Else prove '..UptoSaid'. A law counts once. -/
mutual
def uptoBulk {H : Type} : DataW H → Nat
  | .lit (.string bytes) => bytes.length + 1
  | .lit _ => 1
  | .nil => 1
  | .ptr d => uptoBulk d + 1
  | .slice elems spare => uptoBulkAll elems + uptoBulkAll spare + 1
  | .agg parts => uptoBulkAll parts + 1
  | .iface _ d => uptoBulk d + 1
  | .map entries => uptoBulkEntries entries + 1
  | .held _ => 1
def uptoBulkAll {H : Type} : List (DataW H) → Nat
  | [] => 0
  | d :: r => uptoBulk d + uptoBulkAll r
def uptoBulkEntries {H : Type} : List (Lit × DataW H) → Nat
  | [] => 0
  | x :: r => uptoBulkEntry x + uptoBulkEntries r
def uptoBulkEntry {H : Type} : Lit × DataW H → Nat
  | (.string bytes, d) => bytes.length + uptoBulk d + 1
  | (_, d) => uptoBulk d + 1
 end
def uptoSmall : (H : Type) → List (DataW H) → Bool := fun _ ds => decide (uptoBulkAll ds ≤ 1048576)
def OpenSpec.upto (s : _root_.Go.ChangeSpec) : _root_.Go.OpenSpec := { _root_.Go.OpenSpec.ofChange s with cond := some uptoSmall }

/-- 'laws.FnRanges', WHERE WHAT IT READS IS OF BULK AT MOST 1048576: true; the input reads as it did. -/
def fnRangesUptoRow : OpenClaim := { program := "ytflpkbegdmihdaa", sum := "e15d39f63e3183d3f04949196ce2fb2f2eced32495bebf4180b6d510b39892be", func := "loop.example/g00020/laws.FnRanges", spec := "fnRanges", unfollowed := true, recurses := true, apart := false, narrowed := true }
def FnRangesUptoSaid : Prop := fnRangesUptoRow.holds Try.pinned (OpenSpec.upto fnRangesSpec)

/-- 'laws.FnExactTableFault', WHERE WHAT IT READS IS OF BULK AT MOST 1048576: true; the input reads as it did. -/
def fnExactTableFaultUptoRow : OpenClaim := { program := "ytflpkbegdmihdaa", sum := "e15d39f63e3183d3f04949196ce2fb2f2eced32495bebf4180b6d510b39892be", func := "loop.example/g00020/laws.FnExactTableFault", spec := "fnExactTableFault", apart := false, narrowed := true }
def FnExactTableFaultUptoSaid : Prop := fnExactTableFaultUptoRow.holds Try.pinned (OpenSpec.upto fnExactTableFaultSpec)

/-- 'laws.FnExactPolicyFault', WHERE WHAT IT READS IS OF BULK AT MOST 1048576: true; the input reads as it did. -/
def fnExactPolicyFaultUptoRow : OpenClaim := { program := "ytflpkbegdmihdaa", sum := "e15d39f63e3183d3f04949196ce2fb2f2eced32495bebf4180b6d510b39892be", func := "loop.example/g00020/laws.FnExactPolicyFault", spec := "fnExactPolicyFault", apart := false, narrowed := true }
def FnExactPolicyFaultUptoSaid : Prop := fnExactPolicyFaultUptoRow.holds Try.pinned (OpenSpec.upto fnExactPolicyFaultSpec)

/-- 'laws.FnExactEncodeShards', WHERE WHAT IT READS IS OF BULK AT MOST 1048576: true; the input reads as it did. -/
def fnExactEncodeShardsUptoRow : OpenClaim := { program := "ytflpkbegdmihdaa", sum := "e15d39f63e3183d3f04949196ce2fb2f2eced32495bebf4180b6d510b39892be", func := "loop.example/g00020/laws.FnExactEncodeShards", spec := "fnExactEncodeShards", apart := false, narrowed := true }
def FnExactEncodeShardsUptoSaid : Prop := fnExactEncodeShardsUptoRow.holds Try.pinned (OpenSpec.upto fnExactEncodeShardsSpec)

/-- 'laws.FnExactSplitObject', WHERE WHAT IT READS IS OF BULK AT MOST 1048576: true; the input reads as it did. -/
def fnExactSplitObjectUptoRow : OpenClaim := { program := "ytflpkbegdmihdaa", sum := "e15d39f63e3183d3f04949196ce2fb2f2eced32495bebf4180b6d510b39892be", func := "loop.example/g00020/laws.FnExactSplitObject", spec := "fnExactSplitObject", apart := false, narrowed := true }
def FnExactSplitObjectUptoSaid : Prop := fnExactSplitObjectUptoRow.holds Try.pinned (OpenSpec.upto fnExactSplitObjectSpec)

/-- 'laws.FnExactRepairPlan', WHERE WHAT IT READS IS OF BULK AT MOST 1048576: true; the input reads as it did. -/
def fnExactRepairPlanUptoRow : OpenClaim := { program := "ytflpkbegdmihdaa", sum := "e15d39f63e3183d3f04949196ce2fb2f2eced32495bebf4180b6d510b39892be", func := "loop.example/g00020/laws.FnExactRepairPlan", spec := "fnExactRepairPlan", apart := false, narrowed := true }
def FnExactRepairPlanUptoSaid : Prop := fnExactRepairPlanUptoRow.holds Try.pinned (OpenSpec.upto fnExactRepairPlanSpec)

/-- 'laws.FnExactJudge', WHERE WHAT IT READS IS OF BULK AT MOST 1048576: true; the input reads as it did. -/
def fnExactJudgeUptoRow : OpenClaim := { program := "ytflpkbegdmihdaa", sum := "e15d39f63e3183d3f04949196ce2fb2f2eced32495bebf4180b6d510b39892be", func := "loop.example/g00020/laws.FnExactJudge", spec := "fnExactJudge", unfollowed := true, recurses := true, apart := false, narrowed := true }
def FnExactJudgeUptoSaid : Prop := fnExactJudgeUptoRow.holds Try.pinned (OpenSpec.upto fnExactJudgeSpec)

end Rows
end Go.Proofs.Ytflpkbegdmihdaa
