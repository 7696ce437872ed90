/- The row of FnExactTableFault: out of its pure statement and the printed walk. No condition. -/
import Derived.Test.YtflpkbegdmihdaaRows
import Derived.Test.YtflpkbegdmihdaaVFnExactTableFaultQFnExactTableFaultx9
import Derived.Test.YtflpkbegdmihdaaVFnExactTableFaultGoodFnExactTableFault
import Derived.Test.YtflpkbegdmihdaaVFnExactTableFaultPureFnExactTableFault
import Derived.Test.YtflpkbegdmihdaaVFnExactTableFaultOpens
import Derived.WalkKit
import Derived.ProofKit
import Derived.OpenShut
import Derived.ShutString
import Derived.ChangeOld
import Derived.Below
import Derived.SizedLaws
import Derived.Carry
set_option linter.all false
namespace Go.Proofs.Ytflpkbegdmihdaa.fnExactTableFault
open Go.ChangeShapes Go.WideShapes Go.ChangeAt Go.RowKit
open Go.ChangeMaps (open_string shut_string)
open Go.Proofs.YtflpkbegdmihdaaW.PrintWords Go.Proofs.YtflpkbegdmihdaaW.PrintLast Go.Proofs.YtflpkbegdmihdaaW.PrintMore Go.Proofs.Ytflpkbegdmihdaa.Opens Go.Proofs.Ytflpkbegdmihdaa.QFnExactTableFault
theorem own : ownKnob Try.prog.godebug = none := by kernel_rfl
theorem laidOut : laidOutB Try.prog = true := by kernel_rfl
theorem opens_9 : Opens Try.prog 9 Kd.string good9 := opens_string Try.underlying9
theorem opens_4 : Opens Try.prog 4 Kd.bool good4 := opens_bool Try.underlying4
theorem opens_2 : Opens Try.prog 2 (Kd.int .i64) good2 := opens_int Try.underlying2
theorem opensP_211 : Opens Try.prog 211 (Kd.pair Kd.string (Kd.pair (Kd.int .i64) (Kd.pair Kd.bool Kd.string))) (fun x : (ByteArray) × (Int) × (Bool) × (ByteArray) => (good9 (x.1) ∧ good2 (x.2.1) ∧ good4 (x.2.2.1) ∧ good9 (x.2.2.2))) := opens_struct Try.underlying211 (by kernel_rfl) (opensF_cons opens_9 rfl (by kernel_rfl) (opensF_cons opens_2 rfl (by kernel_rfl) (opensF_cons opens_4 rfl (by kernel_rfl) (opensF_one opens_9 rfl (by kernel_rfl)))))
theorem opens_211 : Opens Try.prog 211 k211 good211 := by
  constructor
  intro H enc w base spare held fuel cs x h
  obtain ⟨a, hK, g⟩ := opensP_211.out enc w base spare held fuel cs x h
  exact ⟨⟨a.1, a.2.1, a.2.2.1, a.2.2.2⟩, hK, g⟩
theorem opens_43 : Opens Try.prog 43 (Kd.slice 211 k211) good43 := opens_slice Try.underlying43 (by kernel_rfl) opens_211
theorem opensP_45 : Opens Try.prog 45 (Kd.slice 211 k211) (fun x : List (S211) => good43 (x)) := opens_struct Try.underlying45 (by kernel_rfl) (opensF_one opens_43 rfl (by kernel_rfl))
theorem opens_45 : Opens Try.prog 45 k45 good45 := by
  constructor
  intro H enc w base spare held fuel cs x h
  obtain ⟨a, hK, g⟩ := opensP_45.out enc w base spare held fuel cs x h
  exact ⟨⟨a⟩, hK, g⟩
theorem opens_46 : Opens Try.prog 46 (Kd.slice 45 k45) good46 := opens_slice Try.underlying46 (by kernel_rfl) opens_45
theorem opensP_48 : Opens Try.prog 48 (Kd.pair (Kd.int .i64) (Kd.pair (Kd.int .i64) (Kd.pair (Kd.slice 211 k211) (Kd.slice 45 k45)))) (fun x : (Int) × (Int) × (List (S211)) × (List (S45)) => (good2 (x.1) ∧ good2 (x.2.1) ∧ good43 (x.2.2.1) ∧ good46 (x.2.2.2))) := opens_struct Try.underlying48 (by kernel_rfl) (opensF_cons opens_2 rfl (by kernel_rfl) (opensF_cons opens_2 rfl (by kernel_rfl) (opensF_cons opensP_45 rfl (by kernel_rfl) (opensF_one opens_46 rfl (by kernel_rfl)))))
set_option maxRecDepth 100000 in
theorem lifted (os : Os) (started : os.Started) (H : Type) (enc : TypeId × Value → H) :
    ReturnsInHanded {} Try.checked os 4 .any (Rows.fnExactTableFaultSpec.pre6 enc Try.prog Try.f4 Rows.fnExactTableFaultRow.domain false) (Rows.fnExactTableFaultSpec.post enc Try.prog Try.f4 false true false false) := by
  refine returnsInHanded_of_change_sized (C := Try.checked) own started (by kernel_rfl) Try.func4
    (ChangeSpec.witness6 (enc := enc) (C := Try.checked) false ⟨#[], #[.agg #[.int .i64 0, .int .i64 0, .slice none 0 0, .slice none 0 0]], []⟩ 8 (by kernel_rfl) (by kernel_rfl) (by kernel_rfl) (by kernel_rfl)) ?_
  intro W base args ds gs before hval0 hW hcnd hsz0 _
  have hval : ∀ (j : Nat) t v, Try.f4.params[j]? = some t → args[j]? = some v → Value.okWide Try.prog W .any base t v := hval0
  have hW' := hW
  obtain ⟨p, q, hA0, hV, rfl, hfz, hnd⟩ := hW
  have hA : DataW.TrodAll enc Try.prog W 0 (fun _ => true) true Try.f4.params.toList args.toList ds p := hA0
  rw [Try.params4] at hA hval
  obtain ⟨v0, vs0, d0, ds0, p0, q0, hargs, rfl, rfl, h0, r0⟩ := trodAll_cons hA
  obtain ⟨rfl, rfl, rfl⟩ := trodAll_nil r0
  obtain rfl : args = #[v0] := by cases args; simp_all
  obtain ⟨rfl, rfl⟩ := trodVars_none hV
  have k0 := h0
  have lt0 : ∀ x ∈ p0, x.block < W.heap.size := by obtain ⟨m, hm⟩ := k0; exact DataW.trod_lt m _ _ _ hm
  obtain ⟨cs0, rfl, hz0⟩ := okWide_struct Try.underlying48 (hval 0 48 v0 rfl rfl)
  obtain ⟨fuel0, hf0⟩ := h0
  obtain ⟨x0, K0, g0⟩ := opensP_48.out enc W 0 _ true fuel0 _ _ hf0
  obtain ⟨caK0, cbK0, eK0, K0L, K0R⟩ := K0
  have EK0L : caK0 = [.int .i64 x0.1] := K0L
  obtain ⟨caK0R, cbK0R, eK0R, K0RL, K0RR⟩ := K0R
  have EK0RL : caK0R = [.int .i64 x0.2.1] := K0RL
  obtain ⟨caK0RR, cbK0RR, eK0RR, K0RRL, K0RRR⟩ := K0RR
  obtain ⟨A0_2, c0_2, EK0RRL, hc0_2, hr0_2⟩ := K0RRL
  obtain ⟨A0_3, c0_3, EK0RRR, hc0_3, hr0_3⟩ := K0RRR
  obtain rfl : cs0 = #[.int .i64 x0.1, .int .i64 x0.2.1, .slice A0_2 (x0.2.2.1).length c0_2, .slice A0_3 (x0.2.2.2).length c0_3] := by
    apply Array.toList_inj.1
    have z : cs0.toList = _ := eK0
    rw [z]; simp only [eK0R, eK0RR, EK0L, EK0RL, EK0RRL, EK0RRR, List.cons_append, List.nil_append]
  clear hA0 hval0 hsz0
  obtain ⟨k, h⟩ := Pure.FnExactTableFault (x0.1) (x0.2.1) (x0.2.2.1) (x0.2.2.2) (g0.1) (g0.2.1) (g0.2.2.1) (g0.2.2.2)
  refine (QFnExactTableFault.laws_FnExactTableFault.calls (k := k) (a0_0 := x0.1) (a0_1 := x0.2.1) (A0_2 := A0_2) (c0_2 := c0_2) (l0_2 := x0.2.2.1) (hr0_2 := hr0_2) (hc0_2 := hc0_2) (A0_3 := A0_3) (c0_3 := c0_3) (l0_3 := x0.2.2.2) (hr0_3 := hr0_3) (hc0_3 := hc0_3) (r := true) (w := W) (h := h)).mono fun e W' ⟨he, bel⟩ => ?_
  subst he
  exact ⟨_, rfl, _, _, _, [], _, [], hW', trodAll_mk1 (shut_bool Try.underlying4 _), (trodAll_cons_mk (Below.trod laidOut (by kernel_rfl) (of_decide_eq_true (by kernel_rfl)) k0 bel lt0) trodAll_mk0), rfl, bel.frame _, fun h => by cases h⟩
theorem over : Rows.fnExactTableFaultRow.holds Try.pinned (OpenSpec.ofChange Rows.fnExactTableFaultSpec) :=
  OpenClaim.holds_of_wide 4 Try.f4 rfl rfl rfl rfl rfl rfl rfl ⟨rfl, rfl, rfl, rfl, rfl⟩ rfl rfl rfl rfl rfl (by kernel_rfl) Try.func4 (by kernel_rfl)
    (of_decide_eq_true (by kernel_rfl)) (by unfold Func.isWrapper; first | (rw [if_pos (by decide +kernel)]; kernel_rfl) | (rw [if_neg (by decide +kernel)]; exact ⟨rfl, rfl⟩))
    (fun os started H enc _ => lifted os started H enc)
theorem proved : Rows.FnExactTableFaultSaid := over
#print axioms proved
end Go.Proofs.Ytflpkbegdmihdaa.fnExactTableFault
namespace Go.Proofs.Ytflpkbegdmihdaa
theorem fnExactTableFault_holds : Rows.FnExactTableFaultSaid := fnExactTableFault.proved
end Go.Proofs.Ytflpkbegdmihdaa
