/- The row of FnExactMatrixFault: out of its pure statement and the printed walk. No condition. -/
import Derived.Test.YtnailhkgnccloaaRows
import Derived.Test.YtnailhkgnccloaaPFnExactMatrixFaultx3
import Derived.Test.YtnailhkgnccloaaGoodFnExactMatrixFault
import Derived.Test.YtnailhkgnccloaaPureFnExactMatrixFault
import Derived.Test.YtnailhkgnccloaaOpens
import Derived.WalkKit
import Derived.ProofKit
import Derived.OpenShut
import Derived.ShutString
import Derived.ChangeOld
import Derived.Below
import Derived.SizedLaws
import Derived.Carry
set_option linter.all false
namespace Go.Proofs.Ytnailhkgnccloaa.fnExactMatrixFault
open Go.ChangeShapes Go.WideShapes Go.ChangeAt Go.RowKit
open Go.ChangeMaps (open_string shut_string)
open Go.Proofs.YtnailhkgnccloaaW.PrintWords Go.Proofs.YtnailhkgnccloaaW.PrintLast Go.Proofs.YtnailhkgnccloaaW.PrintMore Go.Proofs.Ytnailhkgnccloaa.Opens Go.Proofs.Ytnailhkgnccloaa.PFnExactMatrixFault
theorem own : ownKnob Try.prog.godebug = none := by kernel_rfl
theorem laidOut : laidOutB Try.prog = true := by kernel_rfl
theorem opens_2 : Opens Try.prog 2 (Kd.int .i64) good2 := opens_int Try.underlying2
theorem opens_40 : Opens Try.prog 40 (Kd.slice 2 (Kd.int .i64)) good40 := opens_slice Try.underlying40 (by kernel_rfl) opens_2
theorem opensP_42 : Opens Try.prog 42 (Kd.pair (Kd.int .i64) (Kd.pair (Kd.int .i64) (Kd.slice 2 (Kd.int .i64)))) (fun x : (Int) × (Int) × (List (Int)) => (good2 (x.1) ∧ good2 (x.2.1) ∧ good40 (x.2.2))) := opens_struct Try.underlying42 (by kernel_rfl) (opensF_cons opens_2 rfl (by kernel_rfl) (opensF_cons opens_2 rfl (by kernel_rfl) (opensF_one opens_40 rfl (by kernel_rfl))))
set_option maxRecDepth 100000 in
theorem lifted (os : Os) (started : os.Started) (H : Type) (enc : TypeId × Value → H) :
    ReturnsInHanded {} Try.checked os 9 .any (Rows.fnExactMatrixFaultSpec.pre6 enc Try.prog Try.f9 Rows.fnExactMatrixFaultRow.domain false) (Rows.fnExactMatrixFaultSpec.post enc Try.prog Try.f9 false true false false) := by
  refine returnsInHanded_of_change_sized (C := Try.checked) own started (by kernel_rfl) Try.func9
    (ChangeSpec.witness6 (enc := enc) (C := Try.checked) false ⟨#[], #[.agg #[.int .i64 0, .int .i64 0, .slice none 0 0]], []⟩ 8 (by kernel_rfl) (by kernel_rfl) (by kernel_rfl) (by kernel_rfl)) ?_
  intro W base args ds gs before hval0 hW hcnd hsz0 _
  have hval : ∀ (j : Nat) t v, Try.f9.params[j]? = some t → args[j]? = some v → Value.okWide Try.prog W .any base t v := hval0
  have hW' := hW
  obtain ⟨p, q, hA0, hV, rfl, hfz, hnd⟩ := hW
  have hA : DataW.TrodAll enc Try.prog W 0 (fun _ => true) true Try.f9.params.toList args.toList ds p := hA0
  rw [Try.params9] at hA hval
  obtain ⟨v0, vs0, d0, ds0, p0, q0, hargs, rfl, rfl, h0, r0⟩ := trodAll_cons hA
  obtain ⟨rfl, rfl, rfl⟩ := trodAll_nil r0
  obtain rfl : args = #[v0] := by cases args; simp_all
  obtain ⟨rfl, rfl⟩ := trodVars_none hV
  have k0 := h0
  have lt0 : ∀ x ∈ p0, x.block < W.heap.size := by obtain ⟨m, hm⟩ := k0; exact DataW.trod_lt m _ _ _ hm
  obtain ⟨cs0, rfl, hz0⟩ := okWide_struct Try.underlying42 (hval 0 42 v0 rfl rfl)
  obtain ⟨fuel0, hf0⟩ := h0
  obtain ⟨x0, K0, g0⟩ := opensP_42.out enc W 0 _ true fuel0 _ _ hf0
  obtain ⟨caK0, cbK0, eK0, K0L, K0R⟩ := K0
  have EK0L : caK0 = [.int .i64 x0.1] := K0L
  obtain ⟨caK0R, cbK0R, eK0R, K0RL, K0RR⟩ := K0R
  have EK0RL : caK0R = [.int .i64 x0.2.1] := K0RL
  obtain ⟨A0_2, c0_2, EK0RR, hc0_2, hr0_2⟩ := K0RR
  obtain rfl : cs0 = #[.int .i64 x0.1, .int .i64 x0.2.1, .slice A0_2 (x0.2.2).length c0_2] := by
    apply Array.toList_inj.1
    have z : cs0.toList = _ := eK0
    rw [z]; simp only [eK0R, EK0L, EK0RL, EK0RR, List.cons_append, List.nil_append]
  clear hA0 hval0 hsz0
  obtain ⟨k, h⟩ := Pure.FnExactMatrixFault (x0.1) (x0.2.1) (x0.2.2) (g0.1) (g0.2.1) (g0.2.2)
  refine (PFnExactMatrixFault.laws_FnExactMatrixFault.calls (k := k) (a0_0 := x0.1) (a0_1 := x0.2.1) (A0_2 := A0_2) (c0_2 := c0_2) (l0_2 := x0.2.2) (hr0_2 := hr0_2) (hc0_2 := hc0_2) (r := true) (w := W) (h := h)).mono fun e W' ⟨he, bel⟩ => ?_
  subst he
  exact ⟨_, rfl, _, _, _, [], _, [], hW', trodAll_mk1 (shut_bool Try.underlying4 _), (trodAll_cons_mk (Below.trod laidOut (by kernel_rfl) (of_decide_eq_true (by kernel_rfl)) k0 bel lt0) trodAll_mk0), rfl, bel.frame _, fun h => by cases h⟩
theorem over : Rows.fnExactMatrixFaultRow.holds Try.pinned (OpenSpec.ofChange Rows.fnExactMatrixFaultSpec) :=
  OpenClaim.holds_of_wide 9 Try.f9 rfl rfl rfl rfl rfl rfl rfl ⟨rfl, rfl, rfl, rfl, rfl⟩ rfl rfl rfl rfl rfl (by kernel_rfl) Try.func9 (by kernel_rfl)
    (of_decide_eq_true (by kernel_rfl)) (by unfold Func.isWrapper; first | (rw [if_pos (by decide +kernel)]; kernel_rfl) | (rw [if_neg (by decide +kernel)]; exact ⟨rfl, rfl⟩))
    (fun os started H enc _ => lifted os started H enc)
theorem proved : Rows.FnExactMatrixFaultSaid := over
#print axioms proved
end Go.Proofs.Ytnailhkgnccloaa.fnExactMatrixFault
namespace Go.Proofs.Ytnailhkgnccloaa
/-- The row, under a short name, for the claim. -/
theorem fnExactMatrixFault_holds : Rows.FnExactMatrixFaultSaid := fnExactMatrixFault.proved
end Go.Proofs.Ytnailhkgnccloaa
