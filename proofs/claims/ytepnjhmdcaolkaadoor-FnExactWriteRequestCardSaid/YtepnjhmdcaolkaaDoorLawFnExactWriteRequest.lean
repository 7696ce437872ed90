/- The row of FnExactWriteRequest: out of its pure statement and the printed walk. No condition. -/
import Derived.Test.YtepnjhmdcaolkaaDoorRows
import Derived.Test.YtepnjhmdcaolkaaDoorQFnExactWriteRequestx14
import Derived.Test.YtepnjhmdcaolkaaDoorGoodFnExactWriteRequest
import Derived.Test.YtepnjhmdcaolkaaDoorPureFnExactWriteRequest
import Derived.Test.YtepnjhmdcaolkaaDoorOpens
import Derived.WalkKit
import Derived.ProofKit
import Derived.OpenShut
import Derived.ShutString
import Derived.ChangeOld
import Derived.Below
import Derived.SizedLaws
import Derived.Carry
import Derived.LaidMore
import Derived.Stop.Joined
import Derived.Lib.LaidU8
import Derived.Lib.LaidTab
import Derived.MakeChecks
import Derived.SevenTiedAt
import Derived.Lay
import Derived.Test.YtepnjhmdcaolkaaDoorTie
import Derived.Test.YtepnjhmdcaolkaaDoorCards
set_option linter.all false
namespace Go.Proofs.YtepnjhmdcaolkaaDoor.fnExactWriteRequest
open Go.ChangeShapes Go.WideShapes Go.ChangeAt Go.RowKit
open Go.ChangeMaps (open_string shut_string)
open Go.Proofs.YtepnjhmdcaolkaaDoorW.PrintWords Go.Proofs.YtepnjhmdcaolkaaDoorW.PrintLast Go.Proofs.YtepnjhmdcaolkaaDoorW.PrintMore Go.Proofs.YtepnjhmdcaolkaaDoor.Opens Go.Proofs.YtepnjhmdcaolkaaDoor.QFnExactWriteRequest
theorem own : ownKnob Tryd.prog.godebug = none := by kernel_rfl
theorem laidOut : laidOutB Tryd.prog = true := by kernel_rfl
theorem opens_9 : Opens Tryd.prog 9 Kd.string good9 := opens_string Tryd.underlying9
theorem opensP_71 : Opens Tryd.prog 71 (Kd.pair Kd.string Kd.string) (fun x : (ByteArray) × (ByteArray) => (good9 (x.1) ∧ good9 (x.2))) := opens_struct Tryd.underlying71 (by kernel_rfl) (opensF_cons opens_9 rfl (by kernel_rfl) (opensF_one opens_9 rfl (by kernel_rfl)))
theorem opens_71 : Opens Tryd.prog 71 k71 good71 := by
  constructor
  intro H enc w base spare held fuel cs x h
  obtain ⟨a, hK, g⟩ := opensP_71.out enc w base spare held fuel cs x h
  exact ⟨⟨a.1, a.2⟩, hK, g⟩
theorem opens_22 : Opens Tryd.prog 22 (Kd.slice 71 k71) good22 := opens_slice Tryd.underlying22 (by kernel_rfl) opens_71
theorem opensP_24 : Opens Tryd.prog 24 (Kd.pair Kd.string (Kd.pair Kd.string (Kd.pair (Kd.slice 71 k71) (Kd.pair (Kd.slice 71 k71) Kd.string)))) (fun x : (ByteArray) × (ByteArray) × (List (S71)) × (List (S71)) × (ByteArray) => (good9 (x.1) ∧ good9 (x.2.1) ∧ good22 (x.2.2.1) ∧ good22 (x.2.2.2.1) ∧ good9 (x.2.2.2.2))) := opens_struct Tryd.underlying24 (by kernel_rfl) (opensF_cons opens_9 rfl (by kernel_rfl) (opensF_cons opens_9 rfl (by kernel_rfl) (opensF_cons opens_22 rfl (by kernel_rfl) (opensF_cons opens_22 rfl (by kernel_rfl) (opensF_one opens_9 rfl (by kernel_rfl))))))
theorem of_laid {W : World} (h : laidMetH Tryd.prog Rows.fnExactWriteRequestRow.laid W) : LaidAt W := by
  rw [MakeChecks.laidMetH_plain _ _ _ (by kernel_rfl)] at h
  obtain ⟨g', t', cs, fuel, p, hg', ht', hvar, hd⟩ := Lib.laidMet.reads h (n := "internal/strconv.uint64pow10") (.tail _ (.tail _ (.head _)))
  obtain rfl := Option.some.inj ((show Tryd.prog.globalNamed "internal/strconv.uint64pow10" = some 1 by kernel_rfl).symm.trans hg')
  obtain ⟨tT, hT⟩ : ∃ t, (Tryd.prog.globals[1]?).map (·.type) = some t := ⟨_, ht'⟩
  unfold LaidAt Lib.TabIs
  have ht2 : t' = 139 := Option.some.inj (ht'.symm.trans (show (Tryd.prog.globals[1]?).map (·.type) = some 139 by kernel_rfl))
  subst ht2
  have hc := Lib.cells_of_tab (zs := Lib.pow10Tab) (k := .u64) Tryd.underlying139 Tryd.underlying129 (by kernel_rfl) (by kernel_rfl) hd
  rw [hvar, ← hc]
set_option maxRecDepth 100000 in
theorem lifted (os : Os) (started : os.Started) (H : Type) (enc : TypeId × Value → H) :
    ReturnsInHanded {} Tryd.checked os 5 .any (fun w args => (Rows.fnExactWriteRequestSpec.pre enc Tryd.prog Tryd.f5 Rows.fnExactWriteRequestRow.domain false w args ∧ laidMetH Tryd.prog Rows.fnExactWriteRequestRow.laid w) ∧ sizedMet enc Tryd.prog Tryd.f5 (OpenSpec.ofChange Rows.fnExactWriteRequestSpec) false w args) (Rows.fnExactWriteRequestSpec.post enc Tryd.prog Tryd.f5 false true false false) := by
  refine returnsInHanded_of_change_and (C := Tryd.checked) (X := fun w _ => laidMetH Tryd.prog Rows.fnExactWriteRequestRow.laid w) (fun _ _ _ hh h => h.of_heap hh) own started (by kernel_rfl) Tryd.func5
    (ChangeSpec.witness_shaped (enc := enc) (C := Tryd.checked) (os := os) (X := fun w _ => laidMetH Tryd.prog Rows.fnExactWriteRequestRow.laid w) false (World.laidAll Tryd.prog os Rows.fnExactWriteRequestRow.laid) #[.agg #[.string ByteArray.empty, .string ByteArray.empty, .slice none 0 0, .slice none 0 0, .string ByteArray.empty]] 8 (World.laidAll_os _ _ _) (World.shaped_of_ZipB (by kernel_rfl) (by kernel_rfl)) (by kernel_rfl) (by kernel_rfl) (by kernel_rfl) (by rw [MakeChecks.laidMetH_plain _ _ _ (by kernel_rfl)]; exact laidMet_laidAll _ (by kernel_rfl) (by kernel_rfl))) ?_
  intro W base args ds gs before hval0 hW hcnd hsz0 hL _
  have hval : ∀ (j : Nat) t v, Tryd.f5.params[j]? = some t → args[j]? = some v → Value.okWide Tryd.prog W .any base t v := hval0
  have hW' := hW
  obtain ⟨p, q, hA0, hV, rfl, hfz, hnd⟩ := hW
  have hA : DataW.TrodAll enc Tryd.prog W 0 (fun _ => true) true Tryd.f5.params.toList args.toList ds p := hA0
  rw [Tryd.params5] at hA hval
  obtain ⟨v0, vs0, d0, ds0, p0, q0, hargs, rfl, rfl, h0, r0⟩ := trodAll_cons hA
  obtain ⟨rfl, rfl, rfl⟩ := trodAll_nil r0
  obtain rfl : args = #[v0] := by cases args; simp_all
  obtain ⟨rfl, rfl⟩ := trodVars_none hV
  have k0 := h0
  have lt0 : ∀ x ∈ p0, x.block < W.heap.size := by obtain ⟨m, hm⟩ := k0; exact DataW.trod_lt m _ _ _ hm
  obtain ⟨cs0, rfl, hz0⟩ := okWide_struct Tryd.underlying24 (hval 0 24 v0 rfl rfl)
  obtain ⟨fuel0, hf0⟩ := h0
  obtain ⟨x0, K0, g0⟩ := opensP_24.out enc W 0 _ true fuel0 _ _ hf0
  obtain ⟨caK0, cbK0, eK0, K0L, K0R⟩ := K0
  have EK0L : caK0 = [.string x0.1] := K0L
  obtain ⟨caK0R, cbK0R, eK0R, K0RL, K0RR⟩ := K0R
  have EK0RL : caK0R = [.string x0.2.1] := K0RL
  obtain ⟨caK0RR, cbK0RR, eK0RR, K0RRL, K0RRR⟩ := K0RR
  obtain ⟨A0_2, c0_2, EK0RRL, hc0_2, hr0_2⟩ := K0RRL
  obtain ⟨caK0RRR, cbK0RRR, eK0RRR, K0RRRL, K0RRRR⟩ := K0RRR
  obtain ⟨A0_3, c0_3, EK0RRRL, hc0_3, hr0_3⟩ := K0RRRL
  have EK0RRRR : cbK0RRR = [.string x0.2.2.2.2] := K0RRRR
  obtain rfl : cs0 = #[.string x0.1, .string x0.2.1, .slice A0_2 (x0.2.2.1).length c0_2, .slice A0_3 (x0.2.2.2.1).length c0_3, .string x0.2.2.2.2] := by
    apply Array.toList_inj.1
    have z : cs0.toList = _ := eK0
    rw [z]; simp only [eK0R, eK0RR, eK0RRR, EK0L, EK0RL, EK0RRL, EK0RRRL, EK0RRRR, List.cons_append, List.nil_append]
  clear hA0 hval0 hsz0
  obtain ⟨k, h⟩ := Pure.FnExactWriteRequest (x0.1) (x0.2.1) (x0.2.2.1) (x0.2.2.2.1) (x0.2.2.2.2) (g0.1) (g0.2.1) (g0.2.2.1) (g0.2.2.2.1) (g0.2.2.2.2)
  refine (QFnExactWriteRequest.laws_FnExactWriteRequest.calls (k := k) (a0_0 := x0.1) (a0_1 := x0.2.1) (A0_2 := A0_2) (c0_2 := c0_2) (l0_2 := x0.2.2.1) (hr0_2 := hr0_2) (hc0_2 := hc0_2) (A0_3 := A0_3) (c0_3 := c0_3) (l0_3 := x0.2.2.2.1) (hr0_3 := hr0_3) (hc0_3 := hc0_3) (a0_4 := x0.2.2.2.2) (hL := of_laid hL) (w := W) (h := h)).mono fun e W' ⟨he, bel⟩ => ?_
  subst he
  exact ⟨_, rfl, _, _, _, [], _, [], hW', trodAll_mk1 (shut_bool Tryd.underlying4 _), (trodAll_cons_mk (Below.trod laidOut (by kernel_rfl) (of_decide_eq_true (by kernel_rfl)) k0 bel lt0) trodAll_mk0), rfl, bel.frame _, fun h => by cases h⟩
theorem over : Rows.fnExactWriteRequestRow.holds Tryd.pinned (OpenSpec.ofChange Rows.fnExactWriteRequestSpec) :=
  OpenClaim.holds_of_wide 5 Tryd.f5 rfl rfl rfl rfl rfl rfl rfl ⟨rfl, rfl, rfl, rfl, rfl⟩ rfl rfl rfl rfl rfl (by kernel_rfl) Tryd.func5 (by kernel_rfl)
    (of_decide_eq_true (by kernel_rfl)) (by unfold Func.isWrapper; first | (rw [if_pos (by decide +kernel)]; kernel_rfl) | (rw [if_neg (by decide +kernel)]; exact ⟨rfl, rfl⟩))
    (fun os started H enc _ => lifted os started H enc)
theorem proved : Rows.FnExactWriteRequestSaid := over
theorem card : Rows.FnExactWriteRequestCardSaid :=
  Claim7.holds_tied_plain_at .later [] [.data, .data, .data, .data, .pinned] true (true, "da861065c72455c79dde11ece6179af63e849f4502bbc74f1a37d5201f2afe0b") true
    over (fun _ h => by cases h) (by kernel_rfl) (fun _ h => by cases h) fnExactWriteRequest_row_tie rfl ⟨rfl, rfl⟩ (by kernel_rfl) rfl
    (fun f fn hf hfn => by
      obtain rfl : f = 5 := Option.some.inj ((show Tryd.prog.funcNamed Tryd.f5.name = some 5 by kernel_rfl).symm.trans hf) |>.symm
      obtain rfl : fn = Tryd.f5 := (Option.some.inj (Tryd.func5.symm.trans hfn)).symm
      exact ⟨by kernel_rfl, fun j t ht => by
        rw [Tryd.params5] at ht
        have hm : t ∈ [24] := by simpa using Array.mem_of_getElem? ht
        have hall : ([24].all fun u => !Tryd.prog.wantsStandIn u) = true := by kernel_rfl
        exact (show Tryd.prog.wantsStandIn t = false by simpa using List.all_eq_true.1 hall t hm)⟩)
    (by kernel_rfl)
#print axioms card
end Go.Proofs.YtepnjhmdcaolkaaDoor.fnExactWriteRequest
namespace Go.Proofs.YtepnjhmdcaolkaaDoor
/-- The card, under a short name, for the claim. -/
theorem fnExactWriteRequest_holds : Rows.FnExactWriteRequestCardSaid := fnExactWriteRequest.card
end Go.Proofs.YtepnjhmdcaolkaaDoor
