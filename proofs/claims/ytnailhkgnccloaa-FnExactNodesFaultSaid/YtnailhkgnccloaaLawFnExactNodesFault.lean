/- The row of FnExactNodesFault: out of its pure statement and the printed walk. No condition. -/
import Derived.Test.YtnailhkgnccloaaRows
import Derived.Test.YtnailhkgnccloaaPFnExactNodesFaultx2
import Derived.Test.YtnailhkgnccloaaGoodFnExactNodesFault
import Derived.Test.YtnailhkgnccloaaPureFnExactNodesFault
import Derived.Test.YtnailhkgnccloaaOpens
import Derived.WalkKit
import Derived.ProofKit
import Derived.OpenShut
import Derived.ShutString
import Derived.ChangeOld
import Derived.Below
import Derived.SizedLaws
import Derived.Carry
set_option linter.all false
namespace Go.Proofs.Ytnailhkgnccloaa.fnExactNodesFault
open Go.ChangeShapes Go.WideShapes Go.ChangeAt Go.RowKit
open Go.ChangeMaps (open_string shut_string)
open Go.Proofs.YtnailhkgnccloaaW.PrintWords Go.Proofs.YtnailhkgnccloaaW.PrintLast Go.Proofs.YtnailhkgnccloaaW.PrintMore Go.Proofs.Ytnailhkgnccloaa.Opens Go.Proofs.Ytnailhkgnccloaa.PFnExactNodesFault
theorem own : ownKnob Try.prog.godebug = none := by kernel_rfl
theorem laidOut : laidOutB Try.prog = true := by kernel_rfl
theorem opens_2 : Opens Try.prog 2 (Kd.int .i64) good2 := opens_int Try.underlying2
theorem opensP_71 : Opens Try.prog 71 (Kd.pair (Kd.int .i64) (Kd.int .i64)) (fun x : (Int) × (Int) => (good2 (x.1) ∧ good2 (x.2))) := opens_struct Try.underlying71 (by kernel_rfl) (opensF_cons opens_2 rfl (by kernel_rfl) (opensF_one opens_2 rfl (by kernel_rfl)))
theorem opens_71 : Opens Try.prog 71 k71 good71 := by
  constructor
  intro H enc w base spare held fuel cs x h
  obtain ⟨a, hK, g⟩ := opensP_71.out enc w base spare held fuel cs x h
  exact ⟨⟨a.1, a.2⟩, hK, g⟩
theorem opens_29 : Opens Try.prog 29 (Kd.slice 71 k71) good29 := opens_slice Try.underlying29 (by kernel_rfl) opens_71
set_option maxRecDepth 100000 in
theorem lifted (os : Os) (started : os.Started) (H : Type) (enc : TypeId × Value → H) :
    ReturnsInHanded {} Try.checked os 5 .any (Rows.fnExactNodesFaultSpec.pre6 enc Try.prog Try.f5 Rows.fnExactNodesFaultRow.domain false) (Rows.fnExactNodesFaultSpec.post enc Try.prog Try.f5 false true false false) := by
  refine returnsInHanded_of_change_sized (C := Try.checked) own started (by kernel_rfl) Try.func5
    (ChangeSpec.witness6 (enc := enc) (C := Try.checked) false ⟨#[], #[.slice none 0 0], []⟩ 8 (by kernel_rfl) (by kernel_rfl) (by kernel_rfl) (by kernel_rfl)) ?_
  intro W base args ds gs before hval0 hW hcnd hsz0 _
  have hval : ∀ (j : Nat) t v, Try.f5.params[j]? = some t → args[j]? = some v → Value.okWide Try.prog W .any base t v := hval0
  have hW' := hW
  obtain ⟨p, q, hA0, hV, rfl, hfz, hnd⟩ := hW
  have hA : DataW.TrodAll enc Try.prog W 0 (fun _ => true) true Try.f5.params.toList args.toList ds p := hA0
  rw [Try.params5] at hA hval
  obtain ⟨v0, vs0, d0, ds0, p0, q0, hargs, rfl, rfl, h0, r0⟩ := trodAll_cons hA
  obtain ⟨rfl, rfl, rfl⟩ := trodAll_nil r0
  obtain rfl : args = #[v0] := by cases args; simp_all
  obtain ⟨rfl, rfl⟩ := trodVars_none hV
  have k0 := h0
  have lt0 : ∀ x ∈ p0, x.block < W.heap.size := by obtain ⟨m, hm⟩ := k0; exact DataW.trod_lt m _ _ _ hm
  obtain ⟨A0, len0, c0, rfl⟩ := okWide_slice Try.underlying29 (hval 0 29 v0 rfl rfl)
  obtain ⟨fuel0, hf0⟩ := h0
  obtain ⟨x0, ⟨A0q, c0q, E0, hc0, hr0⟩, g0⟩ := opens_29.out enc W 0 _ true fuel0 _ _ hf0
  simp only [Value.cells, List.cons.injEq, Value.slice.injEq, and_true] at E0
  obtain ⟨rfl, rfl, rfl⟩ := E0
  clear hA0 hval0 hsz0
  obtain ⟨k, h⟩ := Pure.FnExactNodesFault (x0) (g0)
  refine (PFnExactNodesFault.laws_FnExactNodesFault.calls (k := k) (A0 := A0) (c0 := c0) (l0 := x0) (hr0 := hr0) (hc0 := hc0) (r := true) (w := W) (h := h)).mono fun e W' ⟨he, bel⟩ => ?_
  subst he
  exact ⟨_, rfl, _, _, _, [], _, [], hW', trodAll_mk1 (shut_bool Try.underlying4 _), (trodAll_cons_mk (Below.trod laidOut (by kernel_rfl) (of_decide_eq_true (by kernel_rfl)) k0 bel lt0) trodAll_mk0), rfl, bel.frame _, fun h => by cases h⟩
theorem over : Rows.fnExactNodesFaultRow.holds Try.pinned (OpenSpec.ofChange Rows.fnExactNodesFaultSpec) :=
  OpenClaim.holds_of_wide 5 Try.f5 rfl rfl rfl rfl rfl rfl rfl ⟨rfl, rfl, rfl, rfl, rfl⟩ rfl rfl rfl rfl rfl (by kernel_rfl) Try.func5 (by kernel_rfl)
    (of_decide_eq_true (by kernel_rfl)) (by unfold Func.isWrapper; first | (rw [if_pos (by decide +kernel)]; kernel_rfl) | (rw [if_neg (by decide +kernel)]; exact ⟨rfl, rfl⟩))
    (fun os started H enc _ => lifted os started H enc)
theorem proved : Rows.FnExactNodesFaultSaid := over
#print axioms proved
end Go.Proofs.Ytnailhkgnccloaa.fnExactNodesFault
namespace Go.Proofs.Ytnailhkgnccloaa
/-- The row, under a short name, for the claim. -/
theorem fnExactNodesFault_holds : Rows.FnExactNodesFaultSaid := fnExactNodesFault.proved
end Go.Proofs.Ytnailhkgnccloaa
