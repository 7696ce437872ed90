/- The row of FnExactJudge: out of its pure statement and the printed walk. No condition. -/
import Derived.Test.YtflpkbegdmihdaaRows
import Derived.Test.YtflpkbegdmihdaaVFnExactJudgeQFnExactJudgex15
import Derived.Test.YtflpkbegdmihdaaVFnExactJudgeGoodFnExactJudge
import Derived.Test.YtflpkbegdmihdaaVFnExactJudgePureFnExactJudge
import Derived.Test.YtflpkbegdmihdaaVFnExactJudgeOpens
import Derived.WalkKit
import Derived.ProofKit
import Derived.OpenShut
import Derived.ShutString
import Derived.ChangeOld
import Derived.Below
import Derived.SizedLaws
import Derived.Carry
set_option linter.all false
namespace Go.Proofs.Ytflpkbegdmihdaa.fnExactJudge
open Go.ChangeShapes Go.WideShapes Go.ChangeAt Go.RowKit
open Go.ChangeMaps (open_string shut_string)
open Go.Proofs.YtflpkbegdmihdaaW.PrintWords Go.Proofs.YtflpkbegdmihdaaW.PrintLast Go.Proofs.YtflpkbegdmihdaaW.PrintMore Go.Proofs.Ytflpkbegdmihdaa.Opens Go.Proofs.Ytflpkbegdmihdaa.QFnExactJudge
theorem own : ownKnob Try.prog.godebug = none := by kernel_rfl
theorem laidOut : laidOutB Try.prog = true := by kernel_rfl
theorem opens_2 : Opens Try.prog 2 (Kd.int .i64) good2 := opens_int Try.underlying2
theorem opens_9 : Opens Try.prog 9 Kd.string good9 := opens_string Try.underlying9
theorem opensP_216 : Opens Try.prog 216 (Kd.pair (Kd.int .i64) (Kd.pair Kd.string (Kd.int .i64))) (fun x : (Int) × (ByteArray) × (Int) => (good2 (x.1) ∧ good9 (x.2.1) ∧ good2 (x.2.2))) := opens_struct Try.underlying216 (by kernel_rfl) (opensF_cons opens_2 rfl (by kernel_rfl) (opensF_cons opens_9 rfl (by kernel_rfl) (opensF_one opens_2 rfl (by kernel_rfl))))
theorem opens_216 : Opens Try.prog 216 k216 good216 := by
  constructor
  intro H enc w base spare held fuel cs x h
  obtain ⟨a, hK, g⟩ := opensP_216.out enc w base spare held fuel cs x h
  exact ⟨⟨a.1, a.2.1, a.2.2⟩, hK, g⟩
theorem opens_126 : Opens Try.prog 126 (Kd.slice 216 k216) good126 := opens_slice Try.underlying126 (by kernel_rfl) opens_216
theorem opens_39 : Opens Try.prog 39 (Kd.slice 9 Kd.string) good39 := opens_slice Try.underlying39 (by kernel_rfl) opens_9
theorem opensP_128 : Opens Try.prog 128 (Kd.pair (Kd.int .i64) (Kd.pair (Kd.slice 9 Kd.string) (Kd.pair (Kd.slice 9 Kd.string) (Kd.pair (Kd.slice 9 Kd.string) (Kd.slice 216 k216))))) (fun x : (Int) × (List (ByteArray)) × (List (ByteArray)) × (List (ByteArray)) × (List (S216)) => (good2 (x.1) ∧ good39 (x.2.1) ∧ good39 (x.2.2.1) ∧ good39 (x.2.2.2.1) ∧ good126 (x.2.2.2.2))) := opens_struct Try.underlying128 (by kernel_rfl) (opensF_cons opens_2 rfl (by kernel_rfl) (opensF_cons opens_39 rfl (by kernel_rfl) (opensF_cons opens_39 rfl (by kernel_rfl) (opensF_cons opens_39 rfl (by kernel_rfl) (opensF_one opens_126 rfl (by kernel_rfl))))))
theorem opens_128 : Opens Try.prog 128 k128 good128 := by
  constructor
  intro H enc w base spare held fuel cs x h
  obtain ⟨a, hK, g⟩ := opensP_128.out enc w base spare held fuel cs x h
  exact ⟨⟨a.1, a.2.1, a.2.2.1, a.2.2.2.1, a.2.2.2.2⟩, hK, g⟩
theorem opens_60 : Opens Try.prog 60 (Kd.slice 128 k128) good60 := opens_slice Try.underlying60 (by kernel_rfl) opens_128
theorem opensP_93 : Opens Try.prog 93 (Kd.pair Kd.string (Kd.pair Kd.string (Kd.pair Kd.string (Kd.pair Kd.string (Kd.int .i64))))) (fun x : (ByteArray) × (ByteArray) × (ByteArray) × (ByteArray) × (Int) => (good9 (x.1) ∧ good9 (x.2.1) ∧ good9 (x.2.2.1) ∧ good9 (x.2.2.2.1) ∧ good2 (x.2.2.2.2))) := opens_struct Try.underlying93 (by kernel_rfl) (opensF_cons opens_9 rfl (by kernel_rfl) (opensF_cons opens_9 rfl (by kernel_rfl) (opensF_cons opens_9 rfl (by kernel_rfl) (opensF_cons opens_9 rfl (by kernel_rfl) (opensF_one opens_2 rfl (by kernel_rfl))))))
set_option maxRecDepth 100000 in
theorem lifted (os : Os) (started : os.Started) (H : Type) (enc : TypeId × Value → H) :
    ReturnsInHanded {} Try.checked os 9 .any (Rows.fnExactJudgeSpec.pre6 enc Try.prog Try.f9 Rows.fnExactJudgeRow.domain false) (Rows.fnExactJudgeSpec.post enc Try.prog Try.f9 false true false false) := by
  refine returnsInHanded_of_change_sized (C := Try.checked) own started (by kernel_rfl) Try.func9
    (ChangeSpec.witness6 (enc := enc) (C := Try.checked) false ⟨#[], #[.slice none 0 0, .agg #[.string ByteArray.empty, .string ByteArray.empty, .string ByteArray.empty, .string ByteArray.empty, .int .i64 0]], []⟩ 8 (by kernel_rfl) (by kernel_rfl) (by kernel_rfl) (by kernel_rfl)) ?_
  intro W base args ds gs before hval0 hW hcnd hsz0 _
  have hval : ∀ (j : Nat) t v, Try.f9.params[j]? = some t → args[j]? = some v → Value.okWide Try.prog W .any base t v := hval0
  have hW' := hW
  obtain ⟨p, q, hA0, hV, rfl, hfz, hnd⟩ := hW
  have hA : DataW.TrodAll enc Try.prog W 0 (fun _ => true) true Try.f9.params.toList args.toList ds p := hA0
  rw [Try.params9] at hA hval
  obtain ⟨v0, vs0, d0, ds0, p0, q0, hargs, rfl, rfl, h0, r0⟩ := trodAll_cons hA
  obtain ⟨v1, vs1, d1, ds1, p1, q1, rfl, rfl, rfl, h1, r1⟩ := trodAll_cons r0
  obtain ⟨rfl, rfl, rfl⟩ := trodAll_nil r1
  obtain rfl : args = #[v0, v1] := by cases args; simp_all
  obtain ⟨rfl, rfl⟩ := trodVars_none hV
  have k0 := h0
  have lt0 : ∀ x ∈ p0, x.block < W.heap.size := by obtain ⟨m, hm⟩ := k0; exact DataW.trod_lt m _ _ _ hm
  obtain ⟨A0, len0, c0, rfl⟩ := okWide_slice Try.underlying60 (hval 0 60 v0 rfl rfl)
  obtain ⟨fuel0, hf0⟩ := h0
  obtain ⟨x0, ⟨A0q, c0q, E0, hc0, hr0⟩, g0⟩ := opens_60.out enc W 0 _ true fuel0 _ _ hf0
  simp only [Value.cells, List.cons.injEq, Value.slice.injEq, and_true] at E0
  obtain ⟨rfl, rfl, rfl⟩ := E0
  have k1 := h1
  have lt1 : ∀ x ∈ p1, x.block < W.heap.size := by obtain ⟨m, hm⟩ := k1; exact DataW.trod_lt m _ _ _ hm
  obtain ⟨cs1, rfl, hz1⟩ := okWide_struct Try.underlying93 (hval 1 93 v1 rfl rfl)
  obtain ⟨fuel1, hf1⟩ := h1
  obtain ⟨x1, K1, g1⟩ := opensP_93.out enc W 0 _ true fuel1 _ _ hf1
  obtain ⟨caK1, cbK1, eK1, K1L, K1R⟩ := K1
  have EK1L : caK1 = [.string x1.1] := K1L
  obtain ⟨caK1R, cbK1R, eK1R, K1RL, K1RR⟩ := K1R
  have EK1RL : caK1R = [.string x1.2.1] := K1RL
  obtain ⟨caK1RR, cbK1RR, eK1RR, K1RRL, K1RRR⟩ := K1RR
  have EK1RRL : caK1RR = [.string x1.2.2.1] := K1RRL
  obtain ⟨caK1RRR, cbK1RRR, eK1RRR, K1RRRL, K1RRRR⟩ := K1RRR
  have EK1RRRL : caK1RRR = [.string x1.2.2.2.1] := K1RRRL
  have EK1RRRR : cbK1RRR = [.int .i64 x1.2.2.2.2] := K1RRRR
  obtain rfl : cs1 = #[.string x1.1, .string x1.2.1, .string x1.2.2.1, .string x1.2.2.2.1, .int .i64 x1.2.2.2.2] := by
    apply Array.toList_inj.1
    have z : cs1.toList = _ := eK1
    rw [z]; simp only [eK1R, eK1RR, eK1RRR, EK1L, EK1RL, EK1RRL, EK1RRRL, EK1RRRR, List.cons_append, List.nil_append]
  clear hA0 hval0 hsz0
  obtain ⟨k, h⟩ := Pure.FnExactJudge (x0) (x1.1) (x1.2.1) (x1.2.2.1) (x1.2.2.2.1) (x1.2.2.2.2) (g0) (g1.1) (g1.2.1) (g1.2.2.1) (g1.2.2.2.1) (g1.2.2.2.2)
  refine (QFnExactJudge.laws_FnExactJudge.calls (k := k) (A0 := A0) (c0 := c0) (l0 := x0) (hr0 := hr0) (hc0 := hc0) (a1_0 := x1.1) (a1_1 := x1.2.1) (a1_2 := x1.2.2.1) (a1_3 := x1.2.2.2.1) (a1_4 := x1.2.2.2.2) (r := true) (w := W) (h := h)).mono fun e W' ⟨he, bel⟩ => ?_
  subst he
  exact ⟨_, rfl, _, _, _, [], _, [], hW', trodAll_mk1 (shut_bool Try.underlying4 _), (trodAll_cons_mk (Below.trod laidOut (by kernel_rfl) (of_decide_eq_true (by kernel_rfl)) k0 bel lt0) (trodAll_cons_mk (Below.trod laidOut (by kernel_rfl) (of_decide_eq_true (by kernel_rfl)) k1 bel lt1) trodAll_mk0)), rfl, bel.frame _, fun h => by cases h⟩
theorem over : Rows.fnExactJudgeRow.holds Try.pinned (OpenSpec.ofChange Rows.fnExactJudgeSpec) :=
  OpenClaim.holds_of_wide 9 Try.f9 rfl rfl rfl rfl rfl rfl rfl ⟨rfl, rfl, rfl, rfl, rfl⟩ rfl rfl rfl rfl rfl (by kernel_rfl) Try.func9 (by kernel_rfl)
    (of_decide_eq_true (by kernel_rfl)) (by unfold Func.isWrapper; first | (rw [if_pos (by decide +kernel)]; kernel_rfl) | (rw [if_neg (by decide +kernel)]; exact ⟨rfl, rfl⟩))
    (fun os started H enc _ => lifted os started H enc)
theorem proved : Rows.FnExactJudgeSaid := over
#print axioms proved
end Go.Proofs.Ytflpkbegdmihdaa.fnExactJudge
namespace Go.Proofs.Ytflpkbegdmihdaa
theorem fnExactJudge_holds : Rows.FnExactJudgeSaid := fnExactJudge.proved
end Go.Proofs.Ytflpkbegdmihdaa
