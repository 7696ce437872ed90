/- The row of FnExactRunFault: out of its pure statement and the printed walk. No condition. -/
import Derived.Test.YtimfdodgecehgaaRows
import Derived.Test.YtimfdodgecehgaaQFnExactRunFaultx5
import Derived.Test.YtimfdodgecehgaaGoodFnExactRunFault
import Derived.Test.YtimfdodgecehgaaPureFnExactRunFault
import Derived.Test.YtimfdodgecehgaaOpens
import Derived.WalkKit
import Derived.ProofKit
import Derived.OpenShut
import Derived.ShutString
import Derived.ChangeOld
import Derived.Below
import Derived.SizedLaws
import Derived.Carry
set_option linter.all false
namespace Go.Proofs.Ytimfdodgecehgaa.fnExactRunFault
open Go.ChangeShapes Go.WideShapes Go.ChangeAt Go.RowKit
open Go.ChangeMaps (open_string shut_string)
open Go.Proofs.YtimfdodgecehgaaW.PrintWords Go.Proofs.YtimfdodgecehgaaW.PrintLast Go.Proofs.YtimfdodgecehgaaW.PrintMore Go.Proofs.Ytimfdodgecehgaa.Opens Go.Proofs.Ytimfdodgecehgaa.QFnExactRunFault
theorem own : ownKnob Try.prog.godebug = none := by kernel_rfl
theorem laidOut : laidOutB Try.prog = true := by kernel_rfl
theorem opens_9 : Opens Try.prog 9 Kd.string good9 := opens_string Try.underlying9
theorem opens_4 : Opens Try.prog 4 Kd.bool good4 := opens_bool Try.underlying4
theorem opens_2 : Opens Try.prog 2 (Kd.int .i64) good2 := opens_int Try.underlying2
theorem opensP_178 : Opens Try.prog 178 (Kd.pair Kd.string (Kd.pair (Kd.int .i64) (Kd.pair Kd.bool Kd.string))) (fun x : (ByteArray) × (Int) × (Bool) × (ByteArray) => (good9 (x.1) ∧ good2 (x.2.1) ∧ good4 (x.2.2.1) ∧ good9 (x.2.2.2))) := opens_struct Try.underlying178 (by kernel_rfl) (opensF_cons opens_9 rfl (by kernel_rfl) (opensF_cons opens_2 rfl (by kernel_rfl) (opensF_cons opens_4 rfl (by kernel_rfl) (opensF_one opens_9 rfl (by kernel_rfl)))))
theorem opens_178 : Opens Try.prog 178 k178 good178 := by
  constructor
  intro H enc w base spare held fuel cs x h
  obtain ⟨a, hK, g⟩ := opensP_178.out enc w base spare held fuel cs x h
  exact ⟨⟨a.1, a.2.1, a.2.2.1, a.2.2.2⟩, hK, g⟩
theorem opens_41 : Opens Try.prog 41 (Kd.slice 178 k178) good41 := opens_slice Try.underlying41 (by kernel_rfl) opens_178
theorem opensP_43 : Opens Try.prog 43 (Kd.slice 178 k178) (fun x : List (S178) => good41 (x)) := opens_struct Try.underlying43 (by kernel_rfl) (opensF_one opens_41 rfl (by kernel_rfl))
set_option maxRecDepth 100000 in
theorem lifted (os : Os) (started : os.Started) (H : Type) (enc : TypeId × Value → H) :
    ReturnsInHanded {} Try.checked os 7 .any (Rows.fnExactRunFaultSpec.pre6 enc Try.prog Try.f7 Rows.fnExactRunFaultRow.domain false) (Rows.fnExactRunFaultSpec.post enc Try.prog Try.f7 false true false false) := by
  refine returnsInHanded_of_change_sized (C := Try.checked) own started (by kernel_rfl) Try.func7
    (ChangeSpec.witness6 (enc := enc) (C := Try.checked) false ⟨#[], #[.agg #[.slice none 0 0]], []⟩ 8 (by kernel_rfl) (by kernel_rfl) (by kernel_rfl) (by kernel_rfl)) ?_
  intro W base args ds gs before hval0 hW hcnd hsz0 _
  have hval : ∀ (j : Nat) t v, Try.f7.params[j]? = some t → args[j]? = some v → Value.okWide Try.prog W .any base t v := hval0
  have hW' := hW
  obtain ⟨p, q, hA0, hV, rfl, hfz, hnd⟩ := hW
  have hA : DataW.TrodAll enc Try.prog W 0 (fun _ => true) true Try.f7.params.toList args.toList ds p := hA0
  rw [Try.params7] at hA hval
  obtain ⟨v0, vs0, d0, ds0, p0, q0, hargs, rfl, rfl, h0, r0⟩ := trodAll_cons hA
  obtain ⟨rfl, rfl, rfl⟩ := trodAll_nil r0
  obtain rfl : args = #[v0] := by cases args; simp_all
  obtain ⟨rfl, rfl⟩ := trodVars_none hV
  have k0 := h0
  have lt0 : ∀ x ∈ p0, x.block < W.heap.size := by obtain ⟨m, hm⟩ := k0; exact DataW.trod_lt m _ _ _ hm
  obtain ⟨cs0, rfl, hz0⟩ := okWide_struct Try.underlying43 (hval 0 43 v0 rfl rfl)
  obtain ⟨fuel0, hf0⟩ := h0
  obtain ⟨x0, K0, g0⟩ := opensP_43.out enc W 0 _ true fuel0 _ _ hf0
  obtain ⟨A0_0, c0_0, EK0, hc0_0, hr0_0⟩ := K0
  obtain rfl : cs0 = #[.slice A0_0 (x0).length c0_0] := by
    apply Array.toList_inj.1
    have z : cs0.toList = _ := EK0
    rw [z]
  clear hA0 hval0 hsz0
  obtain ⟨k, h⟩ := Pure.FnExactRunFault (x0) (g0)
  refine (QFnExactRunFault.laws_FnExactRunFault.calls (k := k) (A0_0 := A0_0) (c0_0 := c0_0) (l0_0 := x0) (hr0_0 := hr0_0) (hc0_0 := hc0_0) (r := true) (w := W) (h := h)).mono fun e W' ⟨he, bel⟩ => ?_
  subst he
  exact ⟨_, rfl, _, _, _, [], _, [], hW', trodAll_mk1 (shut_bool Try.underlying4 _), (trodAll_cons_mk (Below.trod laidOut (by kernel_rfl) (of_decide_eq_true (by kernel_rfl)) k0 bel lt0) trodAll_mk0), rfl, bel.frame _, fun h => by cases h⟩
theorem over : Rows.fnExactRunFaultRow.holds Try.pinned (OpenSpec.ofChange Rows.fnExactRunFaultSpec) :=
  OpenClaim.holds_of_wide 7 Try.f7 rfl rfl rfl rfl rfl rfl rfl ⟨rfl, rfl, rfl, rfl, rfl⟩ rfl rfl rfl rfl rfl (by kernel_rfl) Try.func7 (by kernel_rfl)
    (of_decide_eq_true (by kernel_rfl)) (by unfold Func.isWrapper; first | (rw [if_pos (by decide +kernel)]; kernel_rfl) | (rw [if_neg (by decide +kernel)]; exact ⟨rfl, rfl⟩))
    (fun os started H enc _ => lifted os started H enc)
theorem proved : Rows.FnExactRunFaultSaid := over
#print axioms proved
end Go.Proofs.Ytimfdodgecehgaa.fnExactRunFault
namespace Go.Proofs.Ytimfdodgecehgaa
/-- The row, under a short name, for the claim. -/
theorem fnExactRunFault_holds : Rows.FnExactRunFaultSaid := fnExactRunFault.proved
end Go.Proofs.Ytimfdodgecehgaa
