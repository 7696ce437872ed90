/- The row of FnExactDiskScore: out of its pure statement and the printed walk. No condition. -/
import Derived.Test.YtimfdodgecehgaaRows
import Derived.Test.YtimfdodgecehgaaQFnExactDiskScorex3
import Derived.Test.YtimfdodgecehgaaGoodFnExactDiskScore
import Derived.Test.YtimfdodgecehgaaPureFnExactDiskScore
import Derived.Test.YtimfdodgecehgaaOpens
import Derived.WalkKit
import Derived.ProofKit
import Derived.OpenShut
import Derived.ShutString
import Derived.ChangeOld
import Derived.Below
import Derived.SizedLaws
import Derived.Carry
set_option linter.all false
namespace Go.Proofs.Ytimfdodgecehgaa.fnExactDiskScore
open Go.ChangeShapes Go.WideShapes Go.ChangeAt Go.RowKit
open Go.ChangeMaps (open_string shut_string)
open Go.Proofs.YtimfdodgecehgaaW.PrintWords Go.Proofs.YtimfdodgecehgaaW.PrintLast Go.Proofs.YtimfdodgecehgaaW.PrintMore Go.Proofs.Ytimfdodgecehgaa.Opens Go.Proofs.Ytimfdodgecehgaa.QFnExactDiskScore
theorem own : ownKnob Try.prog.godebug = none := by kernel_rfl
theorem laidOut : laidOutB Try.prog = true := by kernel_rfl
theorem opens_2 : Opens Try.prog 2 (Kd.int .i64) good2 := opens_int Try.underlying2
theorem opensP_123 : Opens Try.prog 123 (Kd.pair (Kd.int .i64) (Kd.int .i64)) (fun x : (Int) × (Int) => (good2 (x.1) ∧ good2 (x.2))) := opens_struct Try.underlying123 (by kernel_rfl) (opensF_cons opens_2 rfl (by kernel_rfl) (opensF_one opens_2 rfl (by kernel_rfl)))
theorem opens_123 : Opens Try.prog 123 k123 good123 := by
  constructor
  intro H enc w base spare held fuel cs x h
  obtain ⟨a, hK, g⟩ := opensP_123.out enc w base spare held fuel cs x h
  exact ⟨⟨a.1, a.2⟩, hK, g⟩
theorem opens_34 : Opens Try.prog 34 (Kd.slice 123 k123) good34 := opens_slice Try.underlying34 (by kernel_rfl) opens_123
theorem opens_9 : Opens Try.prog 9 Kd.string good9 := opens_string Try.underlying9
set_option maxRecDepth 100000 in
theorem lifted (os : Os) (started : os.Started) (H : Type) (enc : TypeId × Value → H) :
    ReturnsInHanded {} Try.checked os 6 .any (Rows.fnExactDiskScoreSpec.pre6 enc Try.prog Try.f6 Rows.fnExactDiskScoreRow.domain false) (Rows.fnExactDiskScoreSpec.post enc Try.prog Try.f6 false true false false) := by
  refine returnsInHanded_of_change_sized (C := Try.checked) own started (by kernel_rfl) Try.func6
    (ChangeSpec.witness6 (enc := enc) (C := Try.checked) false ⟨#[], #[.slice none 0 0, .string ByteArray.empty, .int .i64 0], []⟩ 8 (by kernel_rfl) (by kernel_rfl) (by kernel_rfl) (by kernel_rfl)) ?_
  intro W base args ds gs before hval0 hW hcnd hsz0 _
  have hval : ∀ (j : Nat) t v, Try.f6.params[j]? = some t → args[j]? = some v → Value.okWide Try.prog W .any base t v := hval0
  have hW' := hW
  obtain ⟨p, q, hA0, hV, rfl, hfz, hnd⟩ := hW
  have hA : DataW.TrodAll enc Try.prog W 0 (fun _ => true) true Try.f6.params.toList args.toList ds p := hA0
  rw [Try.params6] at hA hval
  obtain ⟨v0, vs0, d0, ds0, p0, q0, hargs, rfl, rfl, h0, r0⟩ := trodAll_cons hA
  obtain ⟨v1, vs1, d1, ds1, p1, q1, rfl, rfl, rfl, h1, r1⟩ := trodAll_cons r0
  obtain ⟨v2, vs2, d2, ds2, p2, q2, rfl, rfl, rfl, h2, r2⟩ := trodAll_cons r1
  obtain ⟨rfl, rfl, rfl⟩ := trodAll_nil r2
  obtain rfl : args = #[v0, v1, v2] := by cases args; simp_all
  obtain ⟨rfl, rfl⟩ := trodVars_none hV
  have k0 := h0
  have lt0 : ∀ x ∈ p0, x.block < W.heap.size := by obtain ⟨m, hm⟩ := k0; exact DataW.trod_lt m _ _ _ hm
  obtain ⟨A0, len0, c0, rfl⟩ := okWide_slice Try.underlying34 (hval 0 34 v0 rfl rfl)
  obtain ⟨fuel0, hf0⟩ := h0
  obtain ⟨x0, ⟨A0q, c0q, E0, hc0, hr0⟩, g0⟩ := opens_34.out enc W 0 _ true fuel0 _ _ hf0
  simp only [Value.cells, List.cons.injEq, Value.slice.injEq, and_true] at E0
  obtain ⟨rfl, rfl, rfl⟩ := E0
  have k1 := h1
  have lt1 : ∀ x ∈ p1, x.block < W.heap.size := by obtain ⟨m, hm⟩ := k1; exact DataW.trod_lt m _ _ _ hm
  obtain ⟨x1, rfl, rfl, rfl, y1⟩ := open_string Try.underlying9 (hval 1 9 v1 rfl rfl) h1
  have k2 := h2
  have lt2 : ∀ x ∈ p2, x.block < W.heap.size := by obtain ⟨m, hm⟩ := k2; exact DataW.trod_lt m _ _ _ hm
  obtain ⟨x2, rfl, rfl, rfl, w2⟩ := open_int Try.underlying2 (hval 2 2 v2 rfl rfl) h2
  clear hA0 hval0 hsz0
  obtain ⟨k, h⟩ := Pure.FnExactDiskScore (x0) (x1) (x2) (g0) (y1) (w2)
  refine (QFnExactDiskScore.laws_FnExactDiskScore.calls (k := k) (A0 := A0) (c0 := c0) (l0 := x0) (hr0 := hr0) (hc0 := hc0) (a1 := x1) (a2 := x2) (r := true) (w := W) (h := h)).mono fun e W' ⟨he, bel⟩ => ?_
  subst he
  exact ⟨_, rfl, _, _, _, [], _, [], hW', trodAll_mk1 (shut_bool Try.underlying4 _), (trodAll_cons_mk (Below.trod laidOut (by kernel_rfl) (of_decide_eq_true (by kernel_rfl)) k0 bel lt0) (trodAll_cons_mk (Below.trod laidOut (by kernel_rfl) (of_decide_eq_true (by kernel_rfl)) k1 bel lt1) (trodAll_cons_mk (Below.trod laidOut (by kernel_rfl) (of_decide_eq_true (by kernel_rfl)) k2 bel lt2) trodAll_mk0))), rfl, bel.frame _, fun h => by cases h⟩
theorem over : Rows.fnExactDiskScoreRow.holds Try.pinned (OpenSpec.ofChange Rows.fnExactDiskScoreSpec) :=
  OpenClaim.holds_of_wide 6 Try.f6 rfl rfl rfl rfl rfl rfl rfl ⟨rfl, rfl, rfl, rfl, rfl⟩ rfl rfl rfl rfl rfl (by kernel_rfl) Try.func6 (by kernel_rfl)
    (of_decide_eq_true (by kernel_rfl)) (by unfold Func.isWrapper; first | (rw [if_pos (by decide +kernel)]; kernel_rfl) | (rw [if_neg (by decide +kernel)]; exact ⟨rfl, rfl⟩))
    (fun os started H enc _ => lifted os started H enc)
theorem proved : Rows.FnExactDiskScoreSaid := over
#print axioms proved
end Go.Proofs.Ytimfdodgecehgaa.fnExactDiskScore
namespace Go.Proofs.Ytimfdodgecehgaa
/-- The row, under a short name, for the claim. -/
theorem fnExactDiskScore_holds : Rows.FnExactDiskScoreSaid := fnExactDiskScore.proved
end Go.Proofs.Ytimfdodgecehgaa
