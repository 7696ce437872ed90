-- A text of this session, printed by a program of its own (wip/tools: xpatch.py, xprint.sh, mkq.py). No condition.
import Derived.Test.YtepnjhmdcaolkaaDoorQFnExactWritePolicyx0
import Derived.Test.YtepnjhmdcaolkaaDoorQFnExactWritePolicyx6
namespace Go.Proofs.YtepnjhmdcaolkaaDoor.QFnExactWritePolicy
open Go.RowKit Go.Proofs.YtepnjhmdcaolkaaDoorW.PrintWords Go.Proofs.YtepnjhmdcaolkaaDoorW.PrintLast Go.Proofs.YtepnjhmdcaolkaaDoorW.PrintMore
attribute [local go_sem] max2_int min2_int max_two min_two max_three min_three max_four min_four   -- for this text's walks alone
set_option linter.unusedVariables false
set_option linter.unusedSimpArgs false

/-! ### impl_testOf: function 78 -/
/-- What a condition asks for, as a value of an interface. -/
def testV (kind : Int) (text : ByteArray) (time : Int) : Value :=
  if kind = 1 then .iface 110 (.agg #[.string text]) else if kind = 2 then .iface 114 (.agg #[.int .i64 time, .bool false]) else if kind = 3 then .iface 114 (.agg #[.int .i64 time, .bool true]) else if kind = 4 then .iface 112 (.agg #[.string text]) else .nilIface
set_option maxHeartbeats 8000000 in
set_option maxRecDepth 100000 in
theorem impl_testOf.calls (a0_0 : Int) (a0_1 : ByteArray) (a0_2 : Int) (w : World) :
  Calls Tryd.prog 78 #[.agg #[.int .i64 a0_0, .string a0_1, .int .i64 a0_2]] w fun e w' => e = .returned (testV a0_0 a0_1 a0_2) ∧ Below w.heap.size w w' := by
 unfold testV
 by_cases h1 : a0_0 = 1
 ·
  have e1 : (a0_0 == 1) = true := beq_iff_eq.mpr h1
  rw [if_pos h1]
  clear h1
  go_enter Tryd.func78, Tryd.ntmps78
  go_wp2
  go_ret
  exact ⟨rfl, below_alloc (Below.refl _ _) _⟩
 have e1 : (a0_0 == 1) = false := beq_eq_false_iff_ne.mpr h1
 rw [if_neg h1]
 clear h1
 by_cases h2 : a0_0 = 2
 ·
  have e2 : (a0_0 == 2) = true := beq_iff_eq.mpr h2
  rw [if_pos h2]
  clear h2
  go_enter Tryd.func78, Tryd.ntmps78
  go_wp2
  go_ret
  exact ⟨rfl, below_alloc (Below.refl _ _) _⟩
 have e2 : (a0_0 == 2) = false := beq_eq_false_iff_ne.mpr h2
 rw [if_neg h2]
 clear h2
 by_cases h3 : a0_0 = 3
 ·
  have e3 : (a0_0 == 3) = true := beq_iff_eq.mpr h3
  rw [if_pos h3]
  clear h3
  go_enter Tryd.func78, Tryd.ntmps78
  go_wp2
  go_ret
  exact ⟨rfl, below_alloc (Below.refl _ _) _⟩
 have e3 : (a0_0 == 3) = false := beq_eq_false_iff_ne.mpr h3
 rw [if_neg h3]
 clear h3
 by_cases h4 : a0_0 = 4
 ·
  have e4 : (a0_0 == 4) = true := beq_iff_eq.mpr h4
  rw [if_pos h4]
  clear h4
  go_enter Tryd.func78, Tryd.ntmps78
  go_wp2
  go_ret
  exact ⟨rfl, below_alloc (Below.refl _ _) _⟩
 have e4 : (a0_0 == 4) = false := beq_eq_false_iff_ne.mpr h4
 rw [if_neg h4]
 clear h4
 go_enter Tryd.func78, Tryd.ntmps78
 go_wp2
 go_ret
 exact ⟨rfl, below_alloc (Below.refl _ _) _⟩

/-! ### impl_conditionFault: function 57 -/
def impl_conditionFault.f (k : Nat) (a0_0 : Int) (a0_1 : ByteArray) (a0_2 : Int) : Option (Bool) :=
  if a0_0 = 1 ∨ a0_0 = 4 then (if a0_2 = 0 then ((impl_plain.f k a0_1 0).bind fun t => (some (!t))) else (some true))
  else (if a0_0 = 2 ∨ a0_0 = 3 then (if a0_1.toList = ([] : List UInt8) then (if a0_2 < 0 then (some true) else (some (decide (a0_2 > 4102444800)))) else (some true)) else (some true))
theorem impl_conditionFault.mono : ∀ a0 a1 a2 k, LeO (impl_conditionFault.f k a0 a1 a2) (impl_conditionFault.f (k + 1) a0 a1 a2) := by
  intro a0 a1 a2 k
  unfold impl_conditionFault.f
  repeat' first
      | (with_reducible exact impl_plain.mono _ _ _)
      | (with_reducible exact LeO.refl _)
      | (with_reducible exact LeO.none _)
      | (with_reducible refine LeO.ite ?_ ?_)
      | (with_reducible refine LeO.bind ?_ (fun _ => ?_))
      | exact impl_plain.mono _ _ _
      | exact LeO.none _
      | refine LeO.ite ?_ ?_
      | refine LeO.bind ?_ (fun _ => ?_)
theorem cond_cells (w W : World) (a : Int) (b : ByteArray) (c : Int) (h : Below (w.alloc (.cells #[.int .i64 a, .string b, .int .i64 c] 61)).heap.size (w.alloc (.cells #[.int .i64 a, .string b, .int .i64 c] 61)) W) :
    W.cell? ⟨w.heap.size, 0, none⟩ = some (.int .i64 a) ∧ W.cell? ⟨w.heap.size, 1, none⟩ = some (.string b) ∧ W.cell? ⟨w.heap.size, 2, none⟩ = some (.int .i64 c) := by
  have h0 : (w.alloc (.cells #[.int .i64 a, .string b, .int .i64 c] 61)).heap[w.heap.size]? = some (.cells #[.int .i64 a, .string b, .int .i64 c] 61) := heap_alloc_new w _
  have hc : ∀ i v, #[Value.int .i64 a, .string b, .int .i64 c][i]? = some v → (w.alloc (.cells #[.int .i64 a, .string b, .int .i64 c] 61)).cell? ⟨w.heap.size, i, none⟩ = some v := fun i v hi => by
    unfold World.cell?
    rw [h0]
    exact hi
  exact ⟨pw_cell_below h (hc 0 _ rfl), pw_cell_below h (hc 1 _ rfl), pw_cell_below h (hc 2 _ rfl)⟩
theorem ta_00 (v : Value) (W : World) : (Instr.typeAssert (.iface 110 v) 107 110 true).run Tryd.prog W = .ok (.tuple #[v, .bool true]) W := by kernel_rfl
theorem ta_01 (v : Value) (W : World) : (Instr.typeAssert (.iface 110 v) 107 112 true).run Tryd.prog W = .ok (.tuple #[.agg #[.string ⟨#[]⟩], .bool false]) W := by kernel_rfl
theorem ta_02 (v : Value) (W : World) : (Instr.typeAssert (.iface 110 v) 107 114 true).run Tryd.prog W = .ok (.tuple #[.agg #[.int .i64 0, .bool false], .bool false]) W := by kernel_rfl
theorem ta_10 (v : Value) (W : World) : (Instr.typeAssert (.iface 112 v) 107 110 true).run Tryd.prog W = .ok (.tuple #[.agg #[.string ⟨#[]⟩], .bool false]) W := by kernel_rfl
theorem ta_11 (v : Value) (W : World) : (Instr.typeAssert (.iface 112 v) 107 112 true).run Tryd.prog W = .ok (.tuple #[v, .bool true]) W := by kernel_rfl
theorem ta_12 (v : Value) (W : World) : (Instr.typeAssert (.iface 112 v) 107 114 true).run Tryd.prog W = .ok (.tuple #[.agg #[.int .i64 0, .bool false], .bool false]) W := by kernel_rfl
theorem ta_20 (v : Value) (W : World) : (Instr.typeAssert (.iface 114 v) 107 110 true).run Tryd.prog W = .ok (.tuple #[.agg #[.string ⟨#[]⟩], .bool false]) W := by kernel_rfl
theorem ta_21 (v : Value) (W : World) : (Instr.typeAssert (.iface 114 v) 107 112 true).run Tryd.prog W = .ok (.tuple #[.agg #[.string ⟨#[]⟩], .bool false]) W := by kernel_rfl
theorem ta_22 (v : Value) (W : World) : (Instr.typeAssert (.iface 114 v) 107 114 true).run Tryd.prog W = .ok (.tuple #[v, .bool true]) W := by kernel_rfl
theorem ta_n0 (W : World) : (Instr.typeAssert .nilIface 107 110 true).run Tryd.prog W = .ok (.tuple #[.agg #[.string ⟨#[]⟩], .bool false]) W := by kernel_rfl
theorem ta_n1 (W : World) : (Instr.typeAssert .nilIface 107 112 true).run Tryd.prog W = .ok (.tuple #[.agg #[.string ⟨#[]⟩], .bool false]) W := by kernel_rfl
theorem ta_n2 (W : World) : (Instr.typeAssert .nilIface 107 114 true).run Tryd.prog W = .ok (.tuple #[.agg #[.int .i64 0, .bool false], .bool false]) W := by kernel_rfl
set_option maxHeartbeats 8000000 in
set_option maxRecDepth 100000 in
theorem impl_conditionFault.calls (k : Nat) (a0_0 : Int) (a0_1 : ByteArray) (a0_2 : Int) (r : Bool) (w : World) (h : impl_conditionFault.f k a0_0 a0_1 a0_2 = some r) :
  Calls Tryd.prog 57 #[.agg #[.int .i64 a0_0, .string a0_1, .int .i64 a0_2]] w fun e w' => e = .returned (.bool r) ∧ Below w.heap.size w w' := by
 unfold impl_conditionFault.f at h
 have t00 := ta_00
 have t01 := ta_01
 have t02 := ta_02
 have t10 := ta_10
 have t11 := ta_11
 have t12 := ta_12
 have t20 := ta_20
 have t21 := ta_21
 have t22 := ta_22
 have tn0 := ta_n0
 have tn1 := ta_n1
 have tn2 := ta_n2
 by_cases h1 : a0_0 = 1 ∨ a0_0 = 4
 ·
  rw [if_pos h1] at h
  have hv : testV a0_0 a0_1 a0_2 = .iface 110 (.agg #[.string a0_1]) ∨ testV a0_0 a0_1 a0_2 = .iface 112 (.agg #[.string a0_1]) := by
   unfold testV
   rcases h1 with rfl | rfl
   ·
    exact Or.inl (by rw [if_pos rfl])
   ·
    exact Or.inr (by rw [if_neg (by decide), if_neg (by decide), if_neg (by decide), if_pos rfl])
  clear h1
  by_cases h2 : a0_2 = 0
  rotate_left
  ·
   rw [if_neg h2] at h
   have e2 : (a0_2 != 0) = true := bne_iff_ne.mpr h2
   obtain rfl := Option.some.inj h
   clear h h2
   rcases hv with hv | hv
   all_goals
    go_enter Tryd.func57, Tryd.ntmps57
    go_wp2_with (first | (go_at_call 78; (with_reducible refine (impl_testOf.calls a0_0 a0_1 a0_2 _).mono ?_); rintro e w1 ⟨he, hb⟩; rw [hv] at he; subst he; obtain ⟨hq0, hq1, hq2⟩ := cond_cells w w1 _ _ _ hb; have hB := Aside0.mk (below_step (below_alloc (Below.refl _ _) _) hb); clear hb))
    go_ret
    exact ⟨by first | rfl | simp, by repeat (first | exact hB.out | apply pw_below_drewN | apply below_drew1)⟩
  rw [if_pos h2] at h
  have e2 : (a0_2 != 0) = false := bne_eq_false_iff_eq.mpr h2
  obtain ⟨t, A0, h⟩ := Option.bind_eq_some_iff.mp h
  have A1 := Aside0.mk A0
  clear A0 h2
  obtain rfl := Option.some.inj h
  clear h
  rcases hv with hv | hv
  all_goals
   go_enter Tryd.func57, Tryd.ntmps57
   go_wp2_with (first | (go_at_call 78; (with_reducible refine (impl_testOf.calls a0_0 a0_1 a0_2 _).mono ?_); rintro e w1 ⟨he, hb⟩; rw [hv] at he; subst he; obtain ⟨hq0, hq1, hq2⟩ := cond_cells w w1 _ _ _ hb; have hB := Aside0.mk (below_step (below_alloc (Below.refl _ _) _) hb); clear hb) | (go_at_call 77; (with_reducible refine (impl_plain.calls k a0_1 0 t _ A1.out).mono ?_); rintro e w' ⟨rfl, ⟨nd, rfl⟩⟩))
   go_ret
   exact ⟨by first | rfl | simp, by repeat (first | exact hB.out | apply pw_below_drewN | apply below_drew1)⟩
 rw [if_neg h1] at h
 by_cases h3 : a0_0 = 2 ∨ a0_0 = 3
 rotate_left
 ·
  rw [if_neg h3] at h
  have hv : testV a0_0 a0_1 a0_2 = .nilIface := by
   unfold testV
   rw [if_neg (fun e => h1 (Or.inl e)), if_neg (fun e => h3 (Or.inl e)), if_neg (fun e => h3 (Or.inr e)), if_neg (fun e => h1 (Or.inr e))]
  obtain rfl := Option.some.inj h
  clear h h1 h3
  go_enter Tryd.func57, Tryd.ntmps57
  go_wp2_with (first | (go_at_call 78; (with_reducible refine (impl_testOf.calls a0_0 a0_1 a0_2 _).mono ?_); rintro e w1 ⟨he, hb⟩; rw [hv] at he; subst he; obtain ⟨hq0, hq1, hq2⟩ := cond_cells w w1 _ _ _ hb; have hB := Aside0.mk (below_step (below_alloc (Below.refl _ _) _) hb); clear hb))
  go_ret
  exact ⟨by first | rfl | simp, by repeat (first | exact hB.out | apply pw_below_drewN | apply below_drew1)⟩
 rw [if_pos h3] at h
 have hv : ∃ b, testV a0_0 a0_1 a0_2 = .iface 114 (.agg #[.int .i64 a0_2, .bool b]) := by
  unfold testV
  rcases h3 with rfl | rfl
  ·
   exact ⟨false, by rw [if_neg (by decide), if_pos rfl]⟩
  ·
   exact ⟨true, by rw [if_neg (by decide), if_neg (by decide), if_pos rfl]⟩
 obtain ⟨b, hv⟩ := hv
 clear h1 h3
 by_cases h4 : a0_1.toList = ([] : List UInt8)
 rotate_left
 ·
  rw [if_neg h4] at h
  have e4 : (a0_1.toList != ([] : List UInt8)) = true := bne_iff_ne.mpr h4
  have e5 : (a0_1.toList == ([] : List UInt8)) = false := beq_eq_false_iff_ne.mpr h4
  obtain rfl := Option.some.inj h
  clear h h4
  go_enter Tryd.func57, Tryd.ntmps57
  go_wp2_with (first | (go_at_call 78; (with_reducible refine (impl_testOf.calls a0_0 a0_1 a0_2 _).mono ?_); rintro e w1 ⟨he, hb⟩; rw [hv] at he; subst he; obtain ⟨hq0, hq1, hq2⟩ := cond_cells w w1 _ _ _ hb; have hB := Aside0.mk (below_step (below_alloc (Below.refl _ _) _) hb); clear hb))
  go_ret
  exact ⟨by first | rfl | simp, by repeat (first | exact hB.out | apply pw_below_drewN | apply below_drew1)⟩
 rw [if_pos h4] at h
 have e4 : (a0_1.toList != ([] : List UInt8)) = false := bne_eq_false_iff_eq.mpr h4
 have e5 : (a0_1.toList == ([] : List UInt8)) = true := beq_iff_eq.mpr h4
 clear h4
 by_cases h5 : a0_2 < 0
 ·
  rw [if_pos h5] at h
  have e6 : decide (a0_2 < 0) = true := decide_eq_true h5
  obtain rfl := Option.some.inj h
  clear h h5
  go_enter Tryd.func57, Tryd.ntmps57
  go_wp2_with (first | (go_at_call 78; (with_reducible refine (impl_testOf.calls a0_0 a0_1 a0_2 _).mono ?_); rintro e w1 ⟨he, hb⟩; rw [hv] at he; subst he; obtain ⟨hq0, hq1, hq2⟩ := cond_cells w w1 _ _ _ hb; have hB := Aside0.mk (below_step (below_alloc (Below.refl _ _) _) hb); clear hb))
  go_ret
  exact ⟨by first | rfl | simp, by repeat (first | exact hB.out | apply pw_below_drewN | apply below_drew1)⟩
 rw [if_neg h5] at h
 have e6 : decide (a0_2 < 0) = false := decide_eq_false h5
 obtain rfl := Option.some.inj h
 clear h h5
 go_enter Tryd.func57, Tryd.ntmps57
 go_wp2_with (first | (go_at_call 78; (with_reducible refine (impl_testOf.calls a0_0 a0_1 a0_2 _).mono ?_); rintro e w1 ⟨he, hb⟩; rw [hv] at he; subst he; obtain ⟨hq0, hq1, hq2⟩ := cond_cells w w1 _ _ _ hb; have hB := Aside0.mk (below_step (below_alloc (Below.refl _ _) _) hb); clear hb))
 go_ret
 exact ⟨by first | rfl | simp, by repeat (first | exact hB.out | apply pw_below_drewN | apply below_drew1)⟩

end Go.Proofs.YtepnjhmdcaolkaaDoor.QFnExactWritePolicy
