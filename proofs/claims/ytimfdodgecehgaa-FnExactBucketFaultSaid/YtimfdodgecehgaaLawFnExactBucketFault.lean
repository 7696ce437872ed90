/- The row of FnExactBucketFault: out of its pure statement and the printed walk. No condition. -/
import Derived.Test.YtimfdodgecehgaaRows
import Derived.Test.YtimfdodgecehgaaQFnExactBucketFaultx8
import Derived.Test.YtimfdodgecehgaaGoodFnExactBucketFault
import Derived.Test.YtimfdodgecehgaaPureFnExactBucketFault
import Derived.Test.YtimfdodgecehgaaOpens
import Derived.WalkKit
import Derived.ProofKit
import Derived.OpenShut
import Derived.ShutString
import Derived.ChangeOld
import Derived.Below
import Derived.SizedLaws
import Derived.Carry
set_option linter.all false
namespace Go.Proofs.Ytimfdodgecehgaa.fnExactBucketFault
open Go.ChangeShapes Go.WideShapes Go.ChangeAt Go.RowKit
open Go.ChangeMaps (open_string shut_string)
open Go.Proofs.YtimfdodgecehgaaW.PrintWords Go.Proofs.YtimfdodgecehgaaW.PrintLast Go.Proofs.YtimfdodgecehgaaW.PrintMore Go.Proofs.Ytimfdodgecehgaa.Opens Go.Proofs.Ytimfdodgecehgaa.QFnExactBucketFault
theorem own : ownKnob Try.prog.godebug = none := by kernel_rfl
theorem laidOut : laidOutB Try.prog = true := by kernel_rfl
theorem opens_4 : Opens Try.prog 4 Kd.bool good4 := opens_bool Try.underlying4
theorem opens_2 : Opens Try.prog 2 (Kd.int .i64) good2 := opens_int Try.underlying2
theorem opens_9 : Opens Try.prog 9 Kd.string good9 := opens_string Try.underlying9
theorem opensP_203 : Opens Try.prog 203 (Kd.pair Kd.string (Kd.pair (Kd.int .i64) (Kd.pair Kd.bool (Kd.pair Kd.string (Kd.pair (Kd.int .i64) (Kd.pair (Kd.int .i64) Kd.bool)))))) (fun x : (ByteArray) × (Int) × (Bool) × (ByteArray) × (Int) × (Int) × (Bool) => (good9 (x.1) ∧ good2 (x.2.1) ∧ good4 (x.2.2.1) ∧ good9 (x.2.2.2.1) ∧ good2 (x.2.2.2.2.1) ∧ good2 (x.2.2.2.2.2.1) ∧ good4 (x.2.2.2.2.2.2))) := opens_struct Try.underlying203 (by kernel_rfl) (opensF_cons opens_9 rfl (by kernel_rfl) (opensF_cons opens_2 rfl (by kernel_rfl) (opensF_cons opens_4 rfl (by kernel_rfl) (opensF_cons opens_9 rfl (by kernel_rfl) (opensF_cons opens_2 rfl (by kernel_rfl) (opensF_cons opens_2 rfl (by kernel_rfl) (opensF_one opens_4 rfl (by kernel_rfl))))))))
theorem opens_203 : Opens Try.prog 203 k203 good203 := by
  constructor
  intro H enc w base spare held fuel cs x h
  obtain ⟨a, hK, g⟩ := opensP_203.out enc w base spare held fuel cs x h
  exact ⟨⟨a.1, a.2.1, a.2.2.1, a.2.2.2.1, a.2.2.2.2.1, a.2.2.2.2.2.1, a.2.2.2.2.2.2⟩, hK, g⟩
theorem opens_77 : Opens Try.prog 77 (Kd.slice 203 k203) good77 := opens_slice Try.underlying77 (by kernel_rfl) opens_203
theorem opensP_201 : Opens Try.prog 201 (Kd.pair (Kd.int .i64) (Kd.pair Kd.string (Kd.int .i64))) (fun x : (Int) × (ByteArray) × (Int) => (good2 (x.1) ∧ good9 (x.2.1) ∧ good2 (x.2.2))) := opens_struct Try.underlying201 (by kernel_rfl) (opensF_cons opens_2 rfl (by kernel_rfl) (opensF_cons opens_9 rfl (by kernel_rfl) (opensF_one opens_2 rfl (by kernel_rfl))))
theorem opens_201 : Opens Try.prog 201 k201 good201 := by
  constructor
  intro H enc w base spare held fuel cs x h
  obtain ⟨a, hK, g⟩ := opensP_201.out enc w base spare held fuel cs x h
  exact ⟨⟨a.1, a.2.1, a.2.2⟩, hK, g⟩
theorem opens_76 : Opens Try.prog 76 (Kd.slice 201 k201) good76 := opens_slice Try.underlying76 (by kernel_rfl) opens_201
theorem opensP_79 : Opens Try.prog 79 (Kd.pair (Kd.int .i64) (Kd.pair Kd.bool (Kd.pair (Kd.int .i64) (Kd.pair (Kd.slice 201 k201) (Kd.slice 203 k203))))) (fun x : (Int) × (Bool) × (Int) × (List (S201)) × (List (S203)) => (good2 (x.1) ∧ good4 (x.2.1) ∧ good2 (x.2.2.1) ∧ good76 (x.2.2.2.1) ∧ good77 (x.2.2.2.2))) := opens_struct Try.underlying79 (by kernel_rfl) (opensF_cons opens_2 rfl (by kernel_rfl) (opensF_cons opens_4 rfl (by kernel_rfl) (opensF_cons opens_2 rfl (by kernel_rfl) (opensF_cons opens_76 rfl (by kernel_rfl) (opensF_one opens_77 rfl (by kernel_rfl))))))
set_option maxRecDepth 100000 in
theorem lifted (os : Os) (started : os.Started) (H : Type) (enc : TypeId × Value → H) :
    ReturnsInHanded {} Try.checked os 12 .any (Rows.fnExactBucketFaultSpec.pre6 enc Try.prog Try.f12 Rows.fnExactBucketFaultRow.domain false) (Rows.fnExactBucketFaultSpec.post enc Try.prog Try.f12 false true false false) := by
  refine returnsInHanded_of_change_sized (C := Try.checked) own started (by kernel_rfl) Try.func12
    (ChangeSpec.witness6 (enc := enc) (C := Try.checked) false ⟨#[], #[.agg #[.int .i64 0, .bool false, .int .i64 0, .slice none 0 0, .slice none 0 0]], []⟩ 8 (by kernel_rfl) (by kernel_rfl) (by kernel_rfl) (by kernel_rfl)) ?_
  intro W base args ds gs before hval0 hW hcnd hsz0 _
  have hval : ∀ (j : Nat) t v, Try.f12.params[j]? = some t → args[j]? = some v → Value.okWide Try.prog W .any base t v := hval0
  have hW' := hW
  obtain ⟨p, q, hA0, hV, rfl, hfz, hnd⟩ := hW
  have hA : DataW.TrodAll enc Try.prog W 0 (fun _ => true) true Try.f12.params.toList args.toList ds p := hA0
  rw [Try.params12] at hA hval
  obtain ⟨v0, vs0, d0, ds0, p0, q0, hargs, rfl, rfl, h0, r0⟩ := trodAll_cons hA
  obtain ⟨rfl, rfl, rfl⟩ := trodAll_nil r0
  obtain rfl : args = #[v0] := by cases args; simp_all
  obtain ⟨rfl, rfl⟩ := trodVars_none hV
  have k0 := h0
  have lt0 : ∀ x ∈ p0, x.block < W.heap.size := by obtain ⟨m, hm⟩ := k0; exact DataW.trod_lt m _ _ _ hm
  obtain ⟨cs0, rfl, hz0⟩ := okWide_struct Try.underlying79 (hval 0 79 v0 rfl rfl)
  obtain ⟨fuel0, hf0⟩ := h0
  obtain ⟨x0, K0, g0⟩ := opensP_79.out enc W 0 _ true fuel0 _ _ hf0
  obtain ⟨caK0, cbK0, eK0, K0L, K0R⟩ := K0
  have EK0L : caK0 = [.int .i64 x0.1] := K0L
  obtain ⟨caK0R, cbK0R, eK0R, K0RL, K0RR⟩ := K0R
  have EK0RL : caK0R = [.bool x0.2.1] := K0RL
  obtain ⟨caK0RR, cbK0RR, eK0RR, K0RRL, K0RRR⟩ := K0RR
  have EK0RRL : caK0RR = [.int .i64 x0.2.2.1] := K0RRL
  obtain ⟨caK0RRR, cbK0RRR, eK0RRR, K0RRRL, K0RRRR⟩ := K0RRR
  obtain ⟨A0_3, c0_3, EK0RRRL, hc0_3, hr0_3⟩ := K0RRRL
  obtain ⟨A0_4, c0_4, EK0RRRR, hc0_4, hr0_4⟩ := K0RRRR
  obtain rfl : cs0 = #[.int .i64 x0.1, .bool x0.2.1, .int .i64 x0.2.2.1, .slice A0_3 (x0.2.2.2.1).length c0_3, .slice A0_4 (x0.2.2.2.2).length c0_4] := by
    apply Array.toList_inj.1
    have z : cs0.toList = _ := eK0
    rw [z]; simp only [eK0R, eK0RR, eK0RRR, EK0L, EK0RL, EK0RRL, EK0RRRL, EK0RRRR, List.cons_append, List.nil_append]
  clear hA0 hval0 hsz0
  obtain ⟨k, h⟩ := Pure.FnExactBucketFault (x0.1) (x0.2.1) (x0.2.2.1) (x0.2.2.2.1) (x0.2.2.2.2) (g0.1) (g0.2.2.1) (g0.2.2.2.1) (g0.2.2.2.2)
  refine (QFnExactBucketFault.laws_FnExactBucketFault.calls (k := k) (a0_0 := x0.1) (a0_1 := x0.2.1) (a0_2 := x0.2.2.1) (A0_3 := A0_3) (c0_3 := c0_3) (l0_3 := x0.2.2.2.1) (hr0_3 := hr0_3) (hc0_3 := hc0_3) (A0_4 := A0_4) (c0_4 := c0_4) (l0_4 := x0.2.2.2.2) (hr0_4 := hr0_4) (hc0_4 := hc0_4) (r := true) (w := W) (h := h)).mono fun e W' ⟨he, bel⟩ => ?_
  subst he
  exact ⟨_, rfl, _, _, _, [], _, [], hW', trodAll_mk1 (shut_bool Try.underlying4 _), (trodAll_cons_mk (Below.trod laidOut (by kernel_rfl) (of_decide_eq_true (by kernel_rfl)) k0 bel lt0) trodAll_mk0), rfl, bel.frame _, fun h => by cases h⟩
theorem over : Rows.fnExactBucketFaultRow.holds Try.pinned (OpenSpec.ofChange Rows.fnExactBucketFaultSpec) :=
  OpenClaim.holds_of_wide 12 Try.f12 rfl rfl rfl rfl rfl rfl rfl ⟨rfl, rfl, rfl, rfl, rfl⟩ rfl rfl rfl rfl rfl (by kernel_rfl) Try.func12 (by kernel_rfl)
    (of_decide_eq_true (by kernel_rfl)) (by unfold Func.isWrapper; first | (rw [if_pos (by decide +kernel)]; kernel_rfl) | (rw [if_neg (by decide +kernel)]; exact ⟨rfl, rfl⟩))
    (fun os started H enc _ => lifted os started H enc)
theorem proved : Rows.FnExactBucketFaultSaid := over
#print axioms proved
end Go.Proofs.Ytimfdodgecehgaa.fnExactBucketFault
namespace Go.Proofs.Ytimfdodgecehgaa
/-- The row, under a short name, for the claim. -/
theorem fnExactBucketFault_holds : Rows.FnExactBucketFaultSaid := fnExactBucketFault.proved
end Go.Proofs.Ytimfdodgecehgaa
