/- The row of FnExactMatMul: out of its pure statement and the printed walk. No condition. -/
import Derived.Test.YtcpmlelejlmpdaaRows
import Derived.Test.YtcpmlelejlmpdaaQFnExactMatMulx7
import Derived.Test.YtcpmlelejlmpdaaGoodFnExactMatMul
import Derived.Test.YtcpmlelejlmpdaaPureFnExactMatMul
import Derived.Test.YtcpmlelejlmpdaaOpens
import Derived.WalkKit
import Derived.ProofKit
import Derived.OpenShut
import Derived.ShutString
import Derived.ChangeOld
import Derived.Below
import Derived.SizedLaws
import Derived.Carry
set_option linter.all false
namespace Go.Proofs.Ytcpmlelejlmpdaa.fnExactMatMul
open Go.ChangeShapes Go.WideShapes Go.ChangeAt Go.RowKit
open Go.ChangeMaps (open_string shut_string)
open Go.Proofs.YtcpmlelejlmpdaaW.PrintWords Go.Proofs.YtcpmlelejlmpdaaW.PrintLast Go.Proofs.YtcpmlelejlmpdaaW.PrintMore Go.Proofs.Ytcpmlelejlmpdaa.Opens Go.Proofs.Ytcpmlelejlmpdaa.QFnExactMatMul
theorem own : ownKnob Try.prog.godebug = none := by kernel_rfl
theorem laidOut : laidOutB Try.prog = true := by kernel_rfl
theorem opens_2 : Opens Try.prog 2 (Kd.int .i64) good2 := opens_int Try.underlying2
theorem opens_24 : Opens Try.prog 24 (Kd.slice 2 (Kd.int .i64)) good24 := opens_slice Try.underlying24 (by kernel_rfl) opens_2
theorem opensP_32 : Opens Try.prog 32 (Kd.pair (Kd.int .i64) (Kd.pair (Kd.int .i64) (Kd.slice 2 (Kd.int .i64)))) (fun x : (Int) × (Int) × (List (Int)) => (good2 (x.1) ∧ good2 (x.2.1) ∧ good24 (x.2.2))) := opens_struct Try.underlying32 (by kernel_rfl) (opensF_cons opens_2 rfl (by kernel_rfl) (opensF_cons opens_2 rfl (by kernel_rfl) (opensF_one opens_24 rfl (by kernel_rfl))))
set_option maxRecDepth 100000 in
theorem lifted (os : Os) (started : os.Started) (H : Type) (enc : TypeId × Value → H) :
    ReturnsInHanded {} Try.checked os 4 .any (Rows.fnExactMatMulSpec.pre6 enc Try.prog Try.f4 Rows.fnExactMatMulRow.domain false) (Rows.fnExactMatMulSpec.post enc Try.prog Try.f4 false true false false) := by
  refine returnsInHanded_of_change_sized (C := Try.checked) own started (by kernel_rfl) Try.func4
    (ChangeSpec.witness6 (enc := enc) (C := Try.checked) false ⟨#[], #[.agg #[.int .i64 0, .int .i64 0, .slice none 0 0], .agg #[.int .i64 0, .int .i64 0, .slice none 0 0]], []⟩ 8 (by kernel_rfl) (by kernel_rfl) (by kernel_rfl) (by kernel_rfl)) ?_
  intro W base args ds gs before hval0 hW hcnd hsz0 _
  have hval : ∀ (j : Nat) t v, Try.f4.params[j]? = some t → args[j]? = some v → Value.okWide Try.prog W .any base t v := hval0
  have hW' := hW
  obtain ⟨p, q, hA0, hV, rfl, hfz, hnd⟩ := hW
  have hA : DataW.TrodAll enc Try.prog W 0 (fun _ => true) true Try.f4.params.toList args.toList ds p := hA0
  rw [Try.params4] at hA hval
  obtain ⟨v0, vs0, d0, ds0, p0, q0, hargs, rfl, rfl, h0, r0⟩ := trodAll_cons hA
  obtain ⟨v1, vs1, d1, ds1, p1, q1, rfl, rfl, rfl, h1, r1⟩ := trodAll_cons r0
  obtain ⟨rfl, rfl, rfl⟩ := trodAll_nil r1
  obtain rfl : args = #[v0, v1] := by cases args; simp_all
  obtain ⟨rfl, rfl⟩ := trodVars_none hV
  have k0 := h0
  have lt0 : ∀ x ∈ p0, x.block < W.heap.size := by obtain ⟨m, hm⟩ := k0; exact DataW.trod_lt m _ _ _ hm
  obtain ⟨cs0, rfl, hz0⟩ := okWide_struct Try.underlying32 (hval 0 32 v0 rfl rfl)
  obtain ⟨fuel0, hf0⟩ := h0
  obtain ⟨x0, K0, g0⟩ := opensP_32.out enc W 0 _ true fuel0 _ _ hf0
  obtain ⟨caK0, cbK0, eK0, K0L, K0R⟩ := K0
  have EK0L : caK0 = [.int .i64 x0.1] := K0L
  obtain ⟨caK0R, cbK0R, eK0R, K0RL, K0RR⟩ := K0R
  have EK0RL : caK0R = [.int .i64 x0.2.1] := K0RL
  obtain ⟨A0_2, c0_2, EK0RR, hc0_2, hr0_2⟩ := K0RR
  obtain rfl : cs0 = #[.int .i64 x0.1, .int .i64 x0.2.1, .slice A0_2 (x0.2.2).length c0_2] := by
    apply Array.toList_inj.1
    have z : cs0.toList = _ := eK0
    rw [z]; simp only [eK0R, EK0L, EK0RL, EK0RR, List.cons_append, List.nil_append]
  have k1 := h1
  have lt1 : ∀ x ∈ p1, x.block < W.heap.size := by obtain ⟨m, hm⟩ := k1; exact DataW.trod_lt m _ _ _ hm
  obtain ⟨cs1, rfl, hz1⟩ := okWide_struct Try.underlying32 (hval 1 32 v1 rfl rfl)
  obtain ⟨fuel1, hf1⟩ := h1
  obtain ⟨x1, K1, g1⟩ := opensP_32.out enc W 0 _ true fuel1 _ _ hf1
  obtain ⟨caK1, cbK1, eK1, K1L, K1R⟩ := K1
  have EK1L : caK1 = [.int .i64 x1.1] := K1L
  obtain ⟨caK1R, cbK1R, eK1R, K1RL, K1RR⟩ := K1R
  have EK1RL : caK1R = [.int .i64 x1.2.1] := K1RL
  obtain ⟨A1_2, c1_2, EK1RR, hc1_2, hr1_2⟩ := K1RR
  obtain rfl : cs1 = #[.int .i64 x1.1, .int .i64 x1.2.1, .slice A1_2 (x1.2.2).length c1_2] := by
    apply Array.toList_inj.1
    have z : cs1.toList = _ := eK1
    rw [z]; simp only [eK1R, EK1L, EK1RL, EK1RR, List.cons_append, List.nil_append]
  clear hA0 hval0 hsz0
  obtain ⟨k, h⟩ := Pure.FnExactMatMul (x0.1) (x0.2.1) (x0.2.2) (x1.1) (x1.2.1) (x1.2.2) (g0.1) (g0.2.1) (g0.2.2) (g1.1) (g1.2.1) (g1.2.2)
  refine (QFnExactMatMul.laws_FnExactMatMul.calls (k := k) (a0_0 := x0.1) (a0_1 := x0.2.1) (A0_2 := A0_2) (c0_2 := c0_2) (l0_2 := x0.2.2) (hr0_2 := hr0_2) (hc0_2 := hc0_2) (a1_0 := x1.1) (a1_1 := x1.2.1) (A1_2 := A1_2) (c1_2 := c1_2) (l1_2 := x1.2.2) (hr1_2 := hr1_2) (hc1_2 := hc1_2) (w := W) (h := h)).mono fun e W' ⟨he, bel⟩ => ?_
  subst he
  exact ⟨_, rfl, _, _, _, [], _, [], hW', trodAll_mk1 (shut_bool Try.underlying4 _), (trodAll_cons_mk (Below.trod laidOut (by kernel_rfl) (of_decide_eq_true (by kernel_rfl)) k0 bel lt0) (trodAll_cons_mk (Below.trod laidOut (by kernel_rfl) (of_decide_eq_true (by kernel_rfl)) k1 bel lt1) trodAll_mk0)), rfl, bel.frame _, fun h => by cases h⟩
theorem over : Rows.fnExactMatMulRow.holds Try.pinned (OpenSpec.ofChange Rows.fnExactMatMulSpec) :=
  OpenClaim.holds_of_wide 4 Try.f4 rfl rfl rfl rfl rfl rfl rfl ⟨rfl, rfl, rfl, rfl, rfl⟩ rfl rfl rfl rfl rfl (by kernel_rfl) Try.func4 (by kernel_rfl)
    (of_decide_eq_true (by kernel_rfl)) (by unfold Func.isWrapper; first | (rw [if_pos (by decide +kernel)]; kernel_rfl) | (rw [if_neg (by decide +kernel)]; exact ⟨rfl, rfl⟩))
    (fun os started H enc _ => lifted os started H enc)
theorem proved : Rows.FnExactMatMulSaid := over
#print axioms proved
end Go.Proofs.Ytcpmlelejlmpdaa.fnExactMatMul
namespace Go.Proofs.Ytcpmlelejlmpdaa
/-- The row, under a short name, for the claim. -/
theorem fnExactMatMul_holds : Rows.FnExactMatMulSaid := fnExactMatMul.proved
end Go.Proofs.Ytcpmlelejlmpdaa
