/- The row of FnExactPolicyFault: out of its pure statement and the printed walk. No condition. -/
import Derived.Test.YtflpkbegdmihdaaRows
import Derived.Test.YtflpkbegdmihdaaQFnExactPolicyFaultx7
import Derived.Test.YtflpkbegdmihdaaGoodFnExactPolicyFault
import Derived.Test.YtflpkbegdmihdaaPureFnExactPolicyFault
import Derived.Test.YtflpkbegdmihdaaOpens
import Derived.WalkKit
import Derived.ProofKit
import Derived.OpenShut
import Derived.ShutString
import Derived.ChangeOld
import Derived.Below
import Derived.SizedLaws
import Derived.Carry
set_option linter.all false
namespace Go.Proofs.Ytflpkbegdmihdaa.fnExactPolicyFault
open Go.ChangeShapes Go.WideShapes Go.ChangeAt Go.RowKit
open Go.ChangeMaps (open_string shut_string)
open Go.Proofs.YtflpkbegdmihdaaW.PrintWords Go.Proofs.YtflpkbegdmihdaaW.PrintLast Go.Proofs.YtflpkbegdmihdaaW.PrintMore Go.Proofs.Ytflpkbegdmihdaa.Opens Go.Proofs.Ytflpkbegdmihdaa.QFnExactPolicyFault
theorem own : ownKnob Try.prog.godebug = none := by kernel_rfl
theorem laidOut : laidOutB Try.prog = true := by kernel_rfl
theorem opens_2 : Opens Try.prog 2 (Kd.int .i64) good2 := opens_int Try.underlying2
theorem opens_9 : Opens Try.prog 9 Kd.string good9 := opens_string Try.underlying9
theorem opensP_216 : Opens Try.prog 216 (Kd.pair (Kd.int .i64) (Kd.pair Kd.string (Kd.int .i64))) (fun x : (Int) × (ByteArray) × (Int) => (good2 (x.1) ∧ good9 (x.2.1) ∧ good2 (x.2.2))) := opens_struct Try.underlying216 (by kernel_rfl) (opensF_cons opens_2 rfl (by kernel_rfl) (opensF_cons opens_9 rfl (by kernel_rfl) (opensF_one opens_2 rfl (by kernel_rfl))))
theorem opens_216 : Opens Try.prog 216 k216 good216 := by
  constructor
  intro H enc w base spare held fuel cs x h
  obtain ⟨a, hK, g⟩ := opensP_216.out enc w base spare held fuel cs x h
  exact ⟨⟨a.1, a.2.1, a.2.2⟩, hK, g⟩
theorem opens_126 : Opens Try.prog 126 (Kd.slice 216 k216) good126 := opens_slice Try.underlying126 (by kernel_rfl) opens_216
theorem opens_39 : Opens Try.prog 39 (Kd.slice 9 Kd.string) good39 := opens_slice Try.underlying39 (by kernel_rfl) opens_9
theorem opensP_128 : Opens Try.prog 128 (Kd.pair (Kd.int .i64) (Kd.pair (Kd.slice 9 Kd.string) (Kd.pair (Kd.slice 9 Kd.string) (Kd.pair (Kd.slice 9 Kd.string) (Kd.slice 216 k216))))) (fun x : (Int) × (List (ByteArray)) × (List (ByteArray)) × (List (ByteArray)) × (List (S216)) => (good2 (x.1) ∧ good39 (x.2.1) ∧ good39 (x.2.2.1) ∧ good39 (x.2.2.2.1) ∧ good126 (x.2.2.2.2))) := opens_struct Try.underlying128 (by kernel_rfl) (opensF_cons opens_2 rfl (by kernel_rfl) (opensF_cons opens_39 rfl (by kernel_rfl) (opensF_cons opens_39 rfl (by kernel_rfl) (opensF_cons opens_39 rfl (by kernel_rfl) (opensF_one opens_126 rfl (by kernel_rfl))))))
theorem opens_128 : Opens Try.prog 128 k128 good128 := by
  constructor
  intro H enc w base spare held fuel cs x h
  obtain ⟨a, hK, g⟩ := opensP_128.out enc w base spare held fuel cs x h
  exact ⟨⟨a.1, a.2.1, a.2.2.1, a.2.2.2.1, a.2.2.2.2⟩, hK, g⟩
theorem opens_60 : Opens Try.prog 60 (Kd.slice 128 k128) good60 := opens_slice Try.underlying60 (by kernel_rfl) opens_128
set_option maxRecDepth 100000 in
theorem lifted (os : Os) (started : os.Started) (H : Type) (enc : TypeId × Value → H) :
    ReturnsInHanded {} Try.checked os 5 .any (Rows.fnExactPolicyFaultSpec.pre6 enc Try.prog Try.f5 Rows.fnExactPolicyFaultRow.domain false) (Rows.fnExactPolicyFaultSpec.post enc Try.prog Try.f5 false true false false) := by
  refine returnsInHanded_of_change_sized (C := Try.checked) own started (by kernel_rfl) Try.func5
    (ChangeSpec.witness6 (enc := enc) (C := Try.checked) false ⟨#[], #[.slice none 0 0], []⟩ 8 (by kernel_rfl) (by kernel_rfl) (by kernel_rfl) (by kernel_rfl)) ?_
  intro W base args ds gs before hval0 hW hcnd hsz0 _
  have hval : ∀ (j : Nat) t v, Try.f5.params[j]? = some t → args[j]? = some v → Value.okWide Try.prog W .any base t v := hval0
  have hW' := hW
  obtain ⟨p, q, hA0, hV, rfl, hfz, hnd⟩ := hW
  have hA : DataW.TrodAll enc Try.prog W 0 (fun _ => true) true Try.f5.params.toList args.toList ds p := hA0
  rw [Try.params5] at hA hval
  obtain ⟨v0, vs0, d0, ds0, p0, q0, hargs, rfl, rfl, h0, r0⟩ := trodAll_cons hA
  obtain ⟨rfl, rfl, rfl⟩ := trodAll_nil r0
  obtain rfl : args = #[v0] := by cases args; simp_all
  obtain ⟨rfl, rfl⟩ := trodVars_none hV
  have k0 := h0
  have lt0 : ∀ x ∈ p0, x.block < W.heap.size := by obtain ⟨m, hm⟩ := k0; exact DataW.trod_lt m _ _ _ hm
  obtain ⟨A0, len0, c0, rfl⟩ := okWide_slice Try.underlying60 (hval 0 60 v0 rfl rfl)
  obtain ⟨fuel0, hf0⟩ := h0
  obtain ⟨x0, ⟨A0q, c0q, E0, hc0, hr0⟩, g0⟩ := opens_60.out enc W 0 _ true fuel0 _ _ hf0
  simp only [Value.cells, List.cons.injEq, Value.slice.injEq, and_true] at E0
  obtain ⟨rfl, rfl, rfl⟩ := E0
  clear hA0 hval0 hsz0
  obtain ⟨k, h⟩ := Pure.FnExactPolicyFault (x0) (g0)
  refine (QFnExactPolicyFault.laws_FnExactPolicyFault.calls (k := k) (A0 := A0) (c0 := c0) (l0 := x0) (hr0 := hr0) (hc0 := hc0) (r := true) (w := W) (h := h)).mono fun e W' ⟨he, bel⟩ => ?_
  subst he
  exact ⟨_, rfl, _, _, _, [], _, [], hW', trodAll_mk1 (shut_bool Try.underlying4 _), (trodAll_cons_mk (Below.trod laidOut (by kernel_rfl) (of_decide_eq_true (by kernel_rfl)) k0 bel lt0) trodAll_mk0), rfl, bel.frame _, fun h => by cases h⟩
theorem over : Rows.fnExactPolicyFaultRow.holds Try.pinned (OpenSpec.ofChange Rows.fnExactPolicyFaultSpec) :=
  OpenClaim.holds_of_wide 5 Try.f5 rfl rfl rfl rfl rfl rfl rfl ⟨rfl, rfl, rfl, rfl, rfl⟩ rfl rfl rfl rfl rfl (by kernel_rfl) Try.func5 (by kernel_rfl)
    (of_decide_eq_true (by kernel_rfl)) (by unfold Func.isWrapper; first | (rw [if_pos (by decide +kernel)]; kernel_rfl) | (rw [if_neg (by decide +kernel)]; exact ⟨rfl, rfl⟩))
    (fun os started H enc _ => lifted os started H enc)
theorem proved : Rows.FnExactPolicyFaultSaid := over
#print axioms proved
end Go.Proofs.Ytflpkbegdmihdaa.fnExactPolicyFault
namespace Go.Proofs.Ytflpkbegdmihdaa
/-- The row, under a short name, for the claim. -/
theorem fnExactPolicyFault_holds : Rows.FnExactPolicyFaultSaid := fnExactPolicyFault.proved
end Go.Proofs.Ytflpkbegdmihdaa
