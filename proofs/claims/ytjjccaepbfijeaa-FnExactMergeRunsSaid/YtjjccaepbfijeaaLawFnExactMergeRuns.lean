/- The row of FnExactMergeRuns: out of its pure statement and the printed walk. No condition. -/
import Derived.Test.YtjjccaepbfijeaaRows
import Derived.Test.YtjjccaepbfijeaaQFnExactMergeRunsx13
import Derived.Test.YtjjccaepbfijeaaGoodFnExactMergeRuns
import Derived.Test.YtjjccaepbfijeaaPureFnExactMergeRuns
import Derived.Test.YtjjccaepbfijeaaOpens
import Derived.WalkKit
import Derived.ProofKit
import Derived.OpenShut
import Derived.ShutString
import Derived.ChangeOld
import Derived.Below
import Derived.SizedLaws
import Derived.Carry
set_option linter.all false
namespace Go.Proofs.Ytjjccaepbfijeaa.fnExactMergeRuns
open Go.ChangeShapes Go.WideShapes Go.ChangeAt Go.RowKit
open Go.ChangeMaps (open_string shut_string)
open Go.Proofs.YtjjccaepbfijeaaW.PrintWords Go.Proofs.YtjjccaepbfijeaaW.PrintLast Go.Proofs.YtjjccaepbfijeaaW.PrintMore Go.Proofs.Ytjjccaepbfijeaa.Opens Go.Proofs.Ytjjccaepbfijeaa.QFnExactMergeRuns
theorem own : ownKnob Try.prog.godebug = none := by kernel_rfl
theorem laidOut : laidOutB Try.prog = true := by kernel_rfl
theorem opens_9 : Opens Try.prog 9 Kd.string good9 := opens_string Try.underlying9
theorem opens_4 : Opens Try.prog 4 Kd.bool good4 := opens_bool Try.underlying4
theorem opens_2 : Opens Try.prog 2 (Kd.int .i64) good2 := opens_int Try.underlying2
theorem opensP_66 : Opens Try.prog 66 (Kd.pair Kd.string (Kd.pair (Kd.int .i64) (Kd.pair Kd.bool Kd.string))) (fun x : (ByteArray) × (Int) × (Bool) × (ByteArray) => (good9 (x.1) ∧ good2 (x.2.1) ∧ good4 (x.2.2.1) ∧ good9 (x.2.2.2))) := opens_struct Try.underlying66 (by kernel_rfl) (opensF_cons opens_9 rfl (by kernel_rfl) (opensF_cons opens_2 rfl (by kernel_rfl) (opensF_cons opens_4 rfl (by kernel_rfl) (opensF_one opens_9 rfl (by kernel_rfl)))))
theorem opens_66 : Opens Try.prog 66 k66 good66 := by
  constructor
  intro H enc w base spare held fuel cs x h
  obtain ⟨a, hK, g⟩ := opensP_66.out enc w base spare held fuel cs x h
  exact ⟨⟨a.1, a.2.1, a.2.2.1, a.2.2.2⟩, hK, g⟩
theorem opens_36 : Opens Try.prog 36 (Kd.slice 66 k66) good36 := opens_slice Try.underlying36 (by kernel_rfl) opens_66
theorem opensP_38 : Opens Try.prog 38 (Kd.slice 66 k66) (fun x : List (S66) => good36 (x)) := opens_struct Try.underlying38 (by kernel_rfl) (opensF_one opens_36 rfl (by kernel_rfl))
theorem opens_38 : Opens Try.prog 38 k38 good38 := by
  constructor
  intro H enc w base spare held fuel cs x h
  obtain ⟨a, hK, g⟩ := opensP_38.out enc w base spare held fuel cs x h
  exact ⟨⟨a⟩, hK, g⟩
theorem opens_22 : Opens Try.prog 22 (Kd.slice 38 k38) good22 := opens_slice Try.underlying22 (by kernel_rfl) opens_38
set_option maxRecDepth 100000 in
theorem lifted (os : Os) (started : os.Started) (H : Type) (enc : TypeId × Value → H) :
    ReturnsInHanded {} Try.checked os 3 .any (Rows.fnExactMergeRunsSpec.pre6 enc Try.prog Try.f3 Rows.fnExactMergeRunsRow.domain false) (Rows.fnExactMergeRunsSpec.post enc Try.prog Try.f3 false true false false) := by
  refine returnsInHanded_of_change_sized (C := Try.checked) own started (by kernel_rfl) Try.func3
    (ChangeSpec.witness6 (enc := enc) (C := Try.checked) false ⟨#[], #[.slice none 0 0, .int .i64 0], []⟩ 8 (by kernel_rfl) (by kernel_rfl) (by kernel_rfl) (by kernel_rfl)) ?_
  intro W base args ds gs before hval0 hW hcnd hsz0 _
  have hval : ∀ (j : Nat) t v, Try.f3.params[j]? = some t → args[j]? = some v → Value.okWide Try.prog W .any base t v := hval0
  have hW' := hW
  obtain ⟨p, q, hA0, hV, rfl, hfz, hnd⟩ := hW
  have hA : DataW.TrodAll enc Try.prog W 0 (fun _ => true) true Try.f3.params.toList args.toList ds p := hA0
  rw [Try.params3] at hA hval
  obtain ⟨v0, vs0, d0, ds0, p0, q0, hargs, rfl, rfl, h0, r0⟩ := trodAll_cons hA
  obtain ⟨v1, vs1, d1, ds1, p1, q1, rfl, rfl, rfl, h1, r1⟩ := trodAll_cons r0
  obtain ⟨rfl, rfl, rfl⟩ := trodAll_nil r1
  obtain rfl : args = #[v0, v1] := by cases args; simp_all
  obtain ⟨rfl, rfl⟩ := trodVars_none hV
  have k0 := h0
  have lt0 : ∀ x ∈ p0, x.block < W.heap.size := by obtain ⟨m, hm⟩ := k0; exact DataW.trod_lt m _ _ _ hm
  obtain ⟨A0, len0, c0, rfl⟩ := okWide_slice Try.underlying22 (hval 0 22 v0 rfl rfl)
  obtain ⟨fuel0, hf0⟩ := h0
  obtain ⟨x0, ⟨A0q, c0q, E0, hc0, hr0⟩, g0⟩ := opens_22.out enc W 0 _ true fuel0 _ _ hf0
  simp only [Value.cells, List.cons.injEq, Value.slice.injEq, and_true] at E0
  obtain ⟨rfl, rfl, rfl⟩ := E0
  have k1 := h1
  have lt1 : ∀ x ∈ p1, x.block < W.heap.size := by obtain ⟨m, hm⟩ := k1; exact DataW.trod_lt m _ _ _ hm
  obtain ⟨x1, rfl, rfl, rfl, w1⟩ := open_int Try.underlying2 (hval 1 2 v1 rfl rfl) h1
  clear hA0 hval0 hsz0
  obtain ⟨k, h⟩ := Pure.FnExactMergeRuns (x0) (x1) (g0) (w1)
  refine (QFnExactMergeRuns.laws_FnExactMergeRuns.calls (k := k) (A0 := A0) (c0 := c0) (l0 := x0) (hr0 := hr0) (hc0 := hc0) (a1 := x1) (w := W) (h := h)).mono fun e W' ⟨he, bel⟩ => ?_
  subst he
  exact ⟨_, rfl, _, _, _, [], _, [], hW', trodAll_mk1 (shut_bool Try.underlying4 _), (trodAll_cons_mk (Below.trod laidOut (by kernel_rfl) (of_decide_eq_true (by kernel_rfl)) k0 bel lt0) (trodAll_cons_mk (Below.trod laidOut (by kernel_rfl) (of_decide_eq_true (by kernel_rfl)) k1 bel lt1) trodAll_mk0)), rfl, bel.frame _, fun h => by cases h⟩
theorem over : Rows.fnExactMergeRunsRow.holds Try.pinned (OpenSpec.ofChange Rows.fnExactMergeRunsSpec) :=
  OpenClaim.holds_of_wide 3 Try.f3 rfl rfl rfl rfl rfl rfl rfl ⟨rfl, rfl, rfl, rfl, rfl⟩ rfl rfl rfl rfl rfl (by kernel_rfl) Try.func3 (by kernel_rfl)
    (of_decide_eq_true (by kernel_rfl)) (by unfold Func.isWrapper; first | (rw [if_pos (by decide +kernel)]; kernel_rfl) | (rw [if_neg (by decide +kernel)]; exact ⟨rfl, rfl⟩))
    (fun os started H enc _ => lifted os started H enc)
theorem proved : Rows.FnExactMergeRunsSaid := over
#print axioms proved
end Go.Proofs.Ytjjccaepbfijeaa.fnExactMergeRuns
namespace Go.Proofs.Ytjjccaepbfijeaa
/-- The row, under a short name, for the claim. -/
theorem fnExactMergeRuns_holds : Rows.FnExactMergeRunsSaid := fnExactMergeRuns.proved
end Go.Proofs.Ytjjccaepbfijeaa
