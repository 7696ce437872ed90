/- The row of FnExactWritePolicy: out of its pure statement and the printed walk. No condition. -/
import Derived.Test.YtepnjhmdcaolkaaDoorRows
import Derived.Test.YtepnjhmdcaolkaaDoorQFnExactWritePolicyx11
import Derived.Test.YtepnjhmdcaolkaaDoorGoodFnExactWritePolicy
import Derived.Test.YtepnjhmdcaolkaaDoorPureFnExactWritePolicy
import Derived.Test.YtepnjhmdcaolkaaDoorOpens
import Derived.WalkKit
import Derived.ProofKit
import Derived.OpenShut
import Derived.ShutString
import Derived.ChangeOld
import Derived.Below
import Derived.SizedLaws
import Derived.Carry
import Derived.LaidMore
import Derived.Stop.Joined
import Derived.Lib.LaidU8
import Derived.Lib.LaidTab
import Derived.MakeChecks
import Derived.SevenTiedAt
import Derived.Test.YtepnjhmdcaolkaaDoorTie
import Derived.Test.YtepnjhmdcaolkaaDoorCards
set_option linter.all false
namespace Go.Proofs.YtepnjhmdcaolkaaDoor.fnExactWritePolicy
open Go.ChangeShapes Go.WideShapes Go.ChangeAt Go.RowKit
open Go.ChangeMaps (open_string shut_string)
open Go.Proofs.YtepnjhmdcaolkaaDoorW.PrintWords Go.Proofs.YtepnjhmdcaolkaaDoorW.PrintLast Go.Proofs.YtepnjhmdcaolkaaDoorW.PrintMore Go.Proofs.YtepnjhmdcaolkaaDoor.Opens Go.Proofs.YtepnjhmdcaolkaaDoor.QFnExactWritePolicy
theorem own : ownKnob Tryd.prog.godebug = none := by kernel_rfl
theorem laidOut : laidOutB Tryd.prog = true := by kernel_rfl
theorem opens_2 : Opens Tryd.prog 2 (Kd.int .i64) good2 := opens_int Tryd.underlying2
theorem opens_9 : Opens Tryd.prog 9 Kd.string good9 := opens_string Tryd.underlying9
theorem opensP_102 : Opens Tryd.prog 102 (Kd.pair (Kd.int .i64) (Kd.pair Kd.string (Kd.int .i64))) (fun x : (Int) × (ByteArray) × (Int) => (good2 (x.1) ∧ good9 (x.2.1) ∧ good2 (x.2.2))) := opens_struct Tryd.underlying102 (by kernel_rfl) (opensF_cons opens_2 rfl (by kernel_rfl) (opensF_cons opens_9 rfl (by kernel_rfl) (opensF_one opens_2 rfl (by kernel_rfl))))
theorem opens_102 : Opens Tryd.prog 102 k102 good102 := by
  constructor
  intro H enc w base spare held fuel cs x h
  obtain ⟨a, hK, g⟩ := opensP_102.out enc w base spare held fuel cs x h
  exact ⟨⟨a.1, a.2.1, a.2.2⟩, hK, g⟩
theorem opens_52 : Opens Tryd.prog 52 (Kd.slice 102 k102) good52 := opens_slice Tryd.underlying52 (by kernel_rfl) opens_102
theorem opens_51 : Opens Tryd.prog 51 (Kd.slice 9 Kd.string) good51 := opens_slice Tryd.underlying51 (by kernel_rfl) opens_9
theorem opensP_54 : Opens Tryd.prog 54 (Kd.pair (Kd.int .i64) (Kd.pair (Kd.slice 9 Kd.string) (Kd.pair (Kd.slice 9 Kd.string) (Kd.pair (Kd.slice 9 Kd.string) (Kd.slice 102 k102))))) (fun x : (Int) × (List (ByteArray)) × (List (ByteArray)) × (List (ByteArray)) × (List (S102)) => (good2 (x.1) ∧ good51 (x.2.1) ∧ good51 (x.2.2.1) ∧ good51 (x.2.2.2.1) ∧ good52 (x.2.2.2.2))) := opens_struct Tryd.underlying54 (by kernel_rfl) (opensF_cons opens_2 rfl (by kernel_rfl) (opensF_cons opens_51 rfl (by kernel_rfl) (opensF_cons opens_51 rfl (by kernel_rfl) (opensF_cons opens_51 rfl (by kernel_rfl) (opensF_one opens_52 rfl (by kernel_rfl))))))
theorem opens_54 : Opens Tryd.prog 54 k54 good54 := by
  constructor
  intro H enc w base spare held fuel cs x h
  obtain ⟨a, hK, g⟩ := opensP_54.out enc w base spare held fuel cs x h
  exact ⟨⟨a.1, a.2.1, a.2.2.1, a.2.2.2.1, a.2.2.2.2⟩, hK, g⟩
theorem opens_33 : Opens Tryd.prog 33 (Kd.slice 54 k54) good33 := opens_slice Tryd.underlying33 (by kernel_rfl) opens_54
set_option maxRecDepth 100000 in
theorem door_met (os : Os) (args : Array Value) : laidMetH Tryd.prog Rows.fnExactWritePolicyRow.laid ((World.doorLaid Tryd.prog 400 os).forCall (fun _ _ => 0) ⟨#[], args, []⟩).memory :=
  laidMetH_of_parts3 (fuel := 8) (laidMet_of_run' 8 (by kernel_rfl) (by kernel_rfl)) (by kernel_rfl) (by kernel_rfl)
theorem of_laid {W : World} (h : laidMetH Tryd.prog Rows.fnExactWritePolicyRow.laid W) : LaidAt W := by
  rw [MakeChecks.laidMetH_plain _ _ _ (by kernel_rfl)] at h
  obtain ⟨g', t', cs, fuel, p, hg', ht', hvar, hd⟩ := Lib.laidMet.reads h (n := "internal/strconv.uint64pow10") (.tail _ (.tail _ (.head _)))
  obtain rfl := Option.some.inj ((show Tryd.prog.globalNamed "internal/strconv.uint64pow10" = some 1 by kernel_rfl).symm.trans hg')
  obtain ⟨tT, hT⟩ : ∃ t, (Tryd.prog.globals[1]?).map (·.type) = some t := ⟨_, ht'⟩
  unfold LaidAt Lib.TabIs
  have ht2 : t' = 139 := Option.some.inj (ht'.symm.trans (show (Tryd.prog.globals[1]?).map (·.type) = some 139 by kernel_rfl))
  subst ht2
  have hc := Lib.cells_of_tab (zs := Lib.pow10Tab) (k := .u64) Tryd.underlying139 Tryd.underlying129 (by kernel_rfl) (by kernel_rfl) hd
  rw [hvar, ← hc]
set_option maxRecDepth 100000 in
theorem lifted (os : Os) (started : os.Started) (H : Type) (enc : TypeId × Value → H) :
    ReturnsInHanded {} Tryd.checked os 4 .any (fun w args => (Rows.fnExactWritePolicySpec.pre enc Tryd.prog Tryd.f4 Rows.fnExactWritePolicyRow.domain false w args ∧ laidMetH Tryd.prog Rows.fnExactWritePolicyRow.laid w) ∧ sizedMet enc Tryd.prog Tryd.f4 (OpenSpec.ofChange Rows.fnExactWritePolicySpec) false w args) (Rows.fnExactWritePolicySpec.post enc Tryd.prog Tryd.f4 false true false false) := by
  refine returnsInHanded_of_change_and (C := Tryd.checked) (X := fun w _ => laidMetH Tryd.prog Rows.fnExactWritePolicyRow.laid w) (fun _ _ _ hh h => h.of_heap hh) own started (by kernel_rfl) Tryd.func4
    (ChangeSpec.witness_shaped (enc := enc) (C := Tryd.checked) (os := os) (X := fun w _ => laidMetH Tryd.prog Rows.fnExactWritePolicyRow.laid w) false (World.doorLaid Tryd.prog 400 os) #[.slice none 0 0] 8 rfl (World.shaped_of_RefB (by kernel_rfl) (by kernel_rfl)) (by kernel_rfl) (by kernel_rfl) (by kernel_rfl) (door_met os _)) ?_
  intro W base args ds gs before hval0 hW hcnd hsz0 hL _
  have hval : ∀ (j : Nat) t v, Tryd.f4.params[j]? = some t → args[j]? = some v → Value.okWide Tryd.prog W .any base t v := hval0
  have hW' := hW
  obtain ⟨p, q, hA0, hV, rfl, hfz, hnd⟩ := hW
  have hA : DataW.TrodAll enc Tryd.prog W 0 (fun _ => true) true Tryd.f4.params.toList args.toList ds p := hA0
  rw [Tryd.params4] at hA hval
  obtain ⟨v0, vs0, d0, ds0, p0, q0, hargs, rfl, rfl, h0, r0⟩ := trodAll_cons hA
  obtain ⟨rfl, rfl, rfl⟩ := trodAll_nil r0
  obtain rfl : args = #[v0] := by cases args; simp_all
  obtain ⟨rfl, rfl⟩ := trodVars_none hV
  have k0 := h0
  have lt0 : ∀ x ∈ p0, x.block < W.heap.size := by obtain ⟨m, hm⟩ := k0; exact DataW.trod_lt m _ _ _ hm
  obtain ⟨A0, len0, c0, rfl⟩ := okWide_slice Tryd.underlying33 (hval 0 33 v0 rfl rfl)
  obtain ⟨fuel0, hf0⟩ := h0
  obtain ⟨x0, ⟨A0q, c0q, E0, hc0, hr0⟩, g0⟩ := opens_33.out enc W 0 _ true fuel0 _ _ hf0
  simp only [Value.cells, List.cons.injEq, Value.slice.injEq, and_true] at E0
  obtain ⟨rfl, rfl, rfl⟩ := E0
  clear hA0 hval0 hsz0
  obtain ⟨k, h⟩ := Pure.FnExactWritePolicy (x0) (g0)
  refine (QFnExactWritePolicy.laws_FnExactWritePolicy.calls (k := k) (A0 := A0) (c0 := c0) (l0 := x0) (hr0 := hr0) (hc0 := hc0) (hL := of_laid hL) (w := W) (h := h)).mono fun e W' ⟨he, bel⟩ => ?_
  subst he
  exact ⟨_, rfl, _, _, _, [], _, [], hW', trodAll_mk1 (shut_bool Tryd.underlying4 _), (trodAll_cons_mk (Below.trod laidOut (by kernel_rfl) (of_decide_eq_true (by kernel_rfl)) k0 bel lt0) trodAll_mk0), rfl, bel.frame _, fun h => by cases h⟩
theorem over : Rows.fnExactWritePolicyRow.holds Tryd.pinned (OpenSpec.ofChange Rows.fnExactWritePolicySpec) :=
  OpenClaim.holds_of_wide 4 Tryd.f4 rfl rfl rfl rfl rfl rfl rfl ⟨rfl, rfl, rfl, rfl, rfl⟩ rfl rfl rfl rfl rfl (by kernel_rfl) Tryd.func4 (by kernel_rfl)
    (of_decide_eq_true (by kernel_rfl)) (by unfold Func.isWrapper; first | (rw [if_pos (by decide +kernel)]; kernel_rfl) | (rw [if_neg (by decide +kernel)]; exact ⟨rfl, rfl⟩))
    (fun os started H enc _ => lifted os started H enc)
theorem proved : Rows.FnExactWritePolicySaid := over
theorem card : Rows.FnExactWritePolicyCardSaid :=
  Claim7.holds_tied_plain_at .later [] [.data, .data, .data] true (true, "da861065c72455c79dde11ece6179af63e849f4502bbc74f1a37d5201f2afe0b") true
    over (fun _ h => by cases h) (by kernel_rfl) (fun _ h => by cases h) fnExactWritePolicy_row_tie rfl ⟨rfl, rfl⟩ (by kernel_rfl) rfl
    (fun f fn hf hfn => by
      obtain rfl : f = 4 := Option.some.inj ((show Tryd.prog.funcNamed Tryd.f4.name = some 4 by kernel_rfl).symm.trans hf) |>.symm
      obtain rfl : fn = Tryd.f4 := (Option.some.inj (Tryd.func4.symm.trans hfn)).symm
      exact ⟨by kernel_rfl, fun j t ht => by
        rw [Tryd.params4] at ht
        have hm : t ∈ [33] := by simpa using Array.mem_of_getElem? ht
        have hall : ([33].all fun u => !Tryd.prog.wantsStandIn u) = true := by kernel_rfl
        exact (show Tryd.prog.wantsStandIn t = false by simpa using List.all_eq_true.1 hall t hm)⟩)
    (by kernel_rfl)
#print axioms card
end Go.Proofs.YtepnjhmdcaolkaaDoor.fnExactWritePolicy
namespace Go.Proofs.YtepnjhmdcaolkaaDoor
/-- The card, under a short name, for the claim. -/
theorem fnExactWritePolicy_holds : Rows.FnExactWritePolicyCardSaid := fnExactWritePolicy.card
end Go.Proofs.YtepnjhmdcaolkaaDoor
