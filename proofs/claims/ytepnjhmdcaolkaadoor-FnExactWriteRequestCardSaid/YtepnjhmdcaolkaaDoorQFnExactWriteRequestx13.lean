-- A text of this session, printed by a program of its own (wip/tools: xpatch.py, xprint.sh, mkq.py). No condition.
import Derived.Test.YtepnjhmdcaolkaaDoorQFnExactWriteRequestx0
import Derived.Test.YtepnjhmdcaolkaaDoorQFnExactWriteRequestx10
import Derived.Test.YtepnjhmdcaolkaaDoorQFnExactWriteRequestx11
import Derived.Test.YtepnjhmdcaolkaaDoorQFnExactWriteRequestx12
namespace Go.Proofs.YtepnjhmdcaolkaaDoor.QFnExactWriteRequest
open Go.RowKit Go.Proofs.YtepnjhmdcaolkaaDoorW.PrintWords Go.Proofs.YtepnjhmdcaolkaaDoorW.PrintLast Go.Proofs.YtepnjhmdcaolkaaDoorW.PrintMore
attribute [local go_sem] max2_int min2_int max_two min_two max_three min_three max_four min_four   -- for this text's walks alone
set_option linter.unusedVariables false
set_option linter.unusedSimpArgs false

/-! ### impl_WriteRequest: function 17 -/
mutual
def impl_WriteRequest.j0 : Nat → ByteArray → ByteArray → ByteArray → List (S45) → List (S45) → ByteArray → Option (ByteArray)
  | 0, _, _, _, _, _, _ => none
  | k + 1, x3, x231000, x231001, x231002, x231003, x231004 => if x3.size + 1 ≤ 9223372036854775807 then (impl_WriteRequest.l0 k (x3 ++ (⟨#[10]⟩ : ByteArray)) x231003 (x231003.length : Int) 0 x231000 x231001 x231002 x231003 x231004) else (none)
def impl_WriteRequest.l0 : Nat → ByteArray → List (S45) → Int → Int → ByteArray → ByteArray → List (S45) → List (S45) → ByteArray → Option (ByteArray)
  | 0, _, _, _, _, _, _, _, _, _ => none
  | k + 1, x3, x29, x30, x31, x231000, x231001, x231002, x231003, x231004 => if x31 < x30 then (if 0 ≤ x31 then (if x31 < (x29.length : Int) then (if ((rd_T45 x29 x31).f0).size + 2 ≤ 9223372036854775807 then (if (((rd_T45 x29 x31).f0) ++ (⟨#[58, 32]⟩ : ByteArray)).size + ((rd_T45 x29 x31).f1).size ≤ 9223372036854775807 then (if ((((rd_T45 x29 x31).f0) ++ (⟨#[58, 32]⟩ : ByteArray)) ++ ((rd_T45 x29 x31).f1)).size + 1 ≤ 9223372036854775807 then (if x3.size + (((((rd_T45 x29 x31).f0) ++ (⟨#[58, 32]⟩ : ByteArray)) ++ ((rd_T45 x29 x31).f1)) ++ (⟨#[10]⟩ : ByteArray)).size ≤ 9223372036854775807 then (impl_WriteRequest.l0 k (x3 ++ (((((rd_T45 x29 x31).f0) ++ (⟨#[58, 32]⟩ : ByteArray)) ++ ((rd_T45 x29 x31).f1)) ++ (⟨#[10]⟩ : ByteArray))) x29 x30 (wrap64 (x31 + 1)) x231000 x231001 x231002 x231003 x231004) else (none)) else (none)) else (none)) else (none)) else (none)) else (none)) else (if x3.size + 8 ≤ 9223372036854775807 then ((strconv_Itoa.f (x231004.size : Int)).bind fun t236 => (if (x3 ++ (⟨#[108, 101, 110, 103, 116, 104, 58, 32]⟩ : ByteArray)).size + t236.size ≤ 9223372036854775807 then (if ((x3 ++ (⟨#[108, 101, 110, 103, 116, 104, 58, 32]⟩ : ByteArray)) ++ t236).size + 2 ≤ 9223372036854775807 then (if (((x3 ++ (⟨#[108, 101, 110, 103, 116, 104, 58, 32]⟩ : ByteArray)) ++ t236) ++ (⟨#[10, 10]⟩ : ByteArray)).size + x231004.size ≤ 9223372036854775807 then (some ((((x3 ++ (⟨#[108, 101, 110, 103, 116, 104, 58, 32]⟩ : ByteArray)) ++ t236) ++ (⟨#[10, 10]⟩ : ByteArray)) ++ x231004)) else (none)) else (none)) else (none))) else (none))
end
def impl_WriteRequest.f (k : Nat) (a0_0 : ByteArray) (a0_1 : ByteArray) (l0_2 : List (S45)) (l0_3 : List (S45)) (a0_4 : ByteArray) : Option (ByteArray) := (impl_RequestFault.f k a0_0 a0_1 l0_2 l0_3 a0_4).bind fun t231 => (if t231 = 0 then (if a0_0.size + 1 ≤ 9223372036854775807 then ((impl_escaped.f k a0_1).bind fun t232 => (if (a0_0 ++ (⟨#[32]⟩ : ByteArray)).size + t232.size ≤ 9223372036854775807 then (if (l0_2.length : Int) > 0 then ((impl_writeQuery.f k l0_2).bind fun t233 => (if 1 + t233.size ≤ 9223372036854775807 then (if ((a0_0 ++ (⟨#[32]⟩ : ByteArray)) ++ t232).size + ((⟨#[63]⟩ : ByteArray) ++ t233).size ≤ 9223372036854775807 then (impl_WriteRequest.j0 k (((a0_0 ++ (⟨#[32]⟩ : ByteArray)) ++ t232) ++ ((⟨#[63]⟩ : ByteArray) ++ t233)) a0_0 a0_1 l0_2 l0_3 a0_4) else (none)) else (none))) else (impl_WriteRequest.j0 k ((a0_0 ++ (⟨#[32]⟩ : ByteArray)) ++ t232) a0_0 a0_1 l0_2 l0_3 a0_4)) else (none))) else (none)) else (some (⟨#[]⟩ : ByteArray)))
theorem impl_WriteRequest.mono_l : ∀ k, (∀ y0 y1 y2 y3 y4 y5, LeO (impl_WriteRequest.j0 k y0 y1 y2 y3 y4 y5) (impl_WriteRequest.j0 (k + 1) y0 y1 y2 y3 y4 y5)) ∧ (∀ y0 y1 y2 y3 y4 y5 y6 y7 y8, LeO (impl_WriteRequest.l0 k y0 y1 y2 y3 y4 y5 y6 y7 y8) (impl_WriteRequest.l0 (k + 1) y0 y1 y2 y3 y4 y5 y6 y7 y8))
  | 0 => ⟨fun _ _ _ _ _ _ r h => by simp [impl_WriteRequest.j0] at h, fun _ _ _ _ _ _ _ _ _ r h => by simp [impl_WriteRequest.l0] at h⟩
  | k + 1 => by
    obtain ⟨ih0, ih1⟩ := impl_WriteRequest.mono_l k
    refine ⟨?_, ?_⟩
    · intro y0 y1 y2 y3 y4 y5
      unfold impl_WriteRequest.j0
      repeat' first
      | (with_reducible exact ih0 _ _ _ _ _ _)
      | (with_reducible exact ih1 _ _ _ _ _ _ _ _ _)
      | (with_reducible exact impl_RequestFault.mono _ _ _ _ _ _)
      | (with_reducible exact impl_escaped.mono _ _)
      | (with_reducible exact impl_writeQuery.mono _ _)
      | (with_reducible exact LeO.refl _)
      | (with_reducible exact LeO.none _)
      | (with_reducible refine LeO.ite ?_ ?_)
      | (with_reducible refine LeO.bind ?_ (fun _ => ?_))
      | exact ih0 _ _ _ _ _ _
      | exact ih1 _ _ _ _ _ _ _ _ _
      | exact impl_RequestFault.mono _ _ _ _ _ _
      | exact impl_escaped.mono _ _
      | exact impl_writeQuery.mono _ _
      | exact LeO.none _
      | refine LeO.ite ?_ ?_
      | refine LeO.bind ?_ (fun _ => ?_)
    · intro y0 y1 y2 y3 y4 y5 y6 y7 y8
      unfold impl_WriteRequest.l0
      repeat' first
      | (with_reducible exact ih0 _ _ _ _ _ _)
      | (with_reducible exact ih1 _ _ _ _ _ _ _ _ _)
      | (with_reducible exact impl_RequestFault.mono _ _ _ _ _ _)
      | (with_reducible exact impl_escaped.mono _ _)
      | (with_reducible exact impl_writeQuery.mono _ _)
      | (with_reducible exact LeO.refl _)
      | (with_reducible exact LeO.none _)
      | (with_reducible refine LeO.ite ?_ ?_)
      | (with_reducible refine LeO.bind ?_ (fun _ => ?_))
      | exact ih0 _ _ _ _ _ _
      | exact ih1 _ _ _ _ _ _ _ _ _
      | exact impl_RequestFault.mono _ _ _ _ _ _
      | exact impl_escaped.mono _ _
      | exact impl_writeQuery.mono _ _
      | exact LeO.none _
      | refine LeO.ite ?_ ?_
      | refine LeO.bind ?_ (fun _ => ?_)
theorem impl_WriteRequest.mono : ∀ a0 a1 a2 a3 a4 k, LeO (impl_WriteRequest.f k a0 a1 a2 a3 a4) (impl_WriteRequest.f (k + 1) a0 a1 a2 a3 a4) := by
  intro a0 a1 a2 a3 a4 k
  obtain ⟨ih0, ih1⟩ := impl_WriteRequest.mono_l k
  unfold impl_WriteRequest.f
  repeat' first
      | (with_reducible exact ih0 _ _ _ _ _ _)
      | (with_reducible exact ih1 _ _ _ _ _ _ _ _ _)
      | (with_reducible exact impl_RequestFault.mono _ _ _ _ _ _)
      | (with_reducible exact impl_escaped.mono _ _)
      | (with_reducible exact impl_writeQuery.mono _ _)
      | (with_reducible exact LeO.refl _)
      | (with_reducible exact LeO.none _)
      | (with_reducible refine LeO.ite ?_ ?_)
      | (with_reducible refine LeO.bind ?_ (fun _ => ?_))
      | exact ih0 _ _ _ _ _ _
      | exact ih1 _ _ _ _ _ _ _ _ _
      | exact impl_RequestFault.mono _ _ _ _ _ _
      | exact impl_escaped.mono _ _
      | exact impl_writeQuery.mono _ _
      | exact LeO.none _
      | refine LeO.ite ?_ ?_
      | refine LeO.bind ?_ (fun _ => ?_)
def impl_WriteRequest.T3 : Bool × List (List Nat × List Nat) := (true, [([], []), ([0], [0]), ([1], [1]), ([], []), ([3], [3]), ([4], [4]), ([2, 5], [2, 5]), ([6, 5, 0, 1, 2, 3, 4, 5, 6], [6])])
def impl_WriteRequest.B3 : List Nat := [0, 1, 3, 0, 8, 24, 63, 127]
theorem impl_WriteRequest.tab3 : rtab .any (opsOf Tryd.f17 3) = impl_WriteRequest.T3 := by kernel_rfl
theorem impl_WriteRequest.bits3 : waitsOk impl_WriteRequest.T3.2 impl_WriteRequest.B3 = true := by kernel_rfl
def impl_WriteRequest.T12 : Bool × List (List Nat × List Nat) := (true, [([], []), ([0], [0]), ([], []), ([2], [2]), ([3], [3]), ([4], [4]), ([1, 5], [1, 5]), ([6], [6]), ([], []), ([8], [8]), ([7, 9], [7, 9]), ([10, 5, 0, 1, 2, 3, 4, 5, 6, 7, 8, 9, 10], [10])])
def impl_WriteRequest.B12 : List Nat := [0, 1, 0, 4, 12, 28, 63, 127, 0, 256, 1023, 2047]
theorem impl_WriteRequest.tab12 : rtab .any (opsOf Tryd.f17 12) = impl_WriteRequest.T12 := by kernel_rfl
theorem impl_WriteRequest.bits12 : waitsOk impl_WriteRequest.T12.2 impl_WriteRequest.B12 = true := by kernel_rfl
set_option maxHeartbeats 8000000 in
set_option maxRecDepth 100000 in
theorem impl_WriteRequest.calls (k : Nat) (a0_0 : ByteArray) (a0_1 : ByteArray) (A0_2 : Option Addr) (c0_2 : Nat) (l0_2 : List (S45)) (A0_3 : Option Addr) (c0_3 : Nat) (l0_3 : List (S45)) (a0_4 : ByteArray) (r : ByteArray) (w : World) (hr0_2 : Kd.C k45 w A0_2 l0_2.length l0_2) (hc0_2 : l0_2.length ≤ c0_2) (hr0_3 : Kd.C k45 w A0_3 l0_3.length l0_3) (hc0_3 : l0_3.length ≤ c0_3) (h : impl_WriteRequest.f k a0_0 a0_1 l0_2 l0_3 a0_4 = some r) (hL : LaidAt w) :
  Calls Tryd.prog 17 #[.agg #[.string a0_0, .string a0_1, .slice A0_2 l0_2.length c0_2, .slice A0_3 l0_3.length c0_3, .string a0_4]] w fun e w' => e = .returned (.string r) ∧ Below w.heap.size w w' := by
 have HL := Aside0.mk hL
 clear hL
 have hu29 := Tryd.underlying29
 have hu45 := Tryd.underlying45
 have HR0_2 := Aside0.mk hr0_2
 have HC0_2 := Aside0.mk hc0_2
 clear hr0_2 hc0_2
 have HR0_3 := Aside0.mk hr0_3
 have HC0_3 := Aside0.mk hc0_3
 clear hr0_3 hc0_3
 have HB := Aside0.mk (Below.refl w.heap.size w)
 have H : ((impl_RequestFault.f k a0_0 a0_1 l0_2 l0_3 a0_4).bind fun t231 => (if t231 = 0 then (if a0_0.size + 1 ≤ 9223372036854775807 then ((impl_escaped.f k a0_1).bind fun t232 => (if (a0_0 ++ (⟨#[32]⟩ : ByteArray)).size + t232.size ≤ 9223372036854775807 then (if (l0_2.length : Int) > 0 then ((impl_writeQuery.f k l0_2).bind fun t233 => (if 1 + t233.size ≤ 9223372036854775807 then (if ((a0_0 ++ (⟨#[32]⟩ : ByteArray)) ++ t232).size + ((⟨#[63]⟩ : ByteArray) ++ t233).size ≤ 9223372036854775807 then (impl_WriteRequest.j0 k (((a0_0 ++ (⟨#[32]⟩ : ByteArray)) ++ t232) ++ ((⟨#[63]⟩ : ByteArray) ++ t233)) a0_0 a0_1 l0_2 l0_3 a0_4) else (none)) else (none))) else (impl_WriteRequest.j0 k ((a0_0 ++ (⟨#[32]⟩ : ByteArray)) ++ t232) a0_0 a0_1 l0_2 l0_3 a0_4)) else (none))) else (none)) else (some (⟨#[]⟩ : ByteArray)))) = some r := h
 clear h
 replace H := Option.bind_eq_some_iff.mp H
 obtain ⟨t231, A20, H⟩ := H
 replace H : (if t231 = 0 then (if a0_0.size + 1 ≤ 9223372036854775807 then ((impl_escaped.f k a0_1).bind fun t232 => (if (a0_0 ++ (⟨#[32]⟩ : ByteArray)).size + t232.size ≤ 9223372036854775807 then (if (l0_2.length : Int) > 0 then ((impl_writeQuery.f k l0_2).bind fun t233 => (if 1 + t233.size ≤ 9223372036854775807 then (if ((a0_0 ++ (⟨#[32]⟩ : ByteArray)) ++ t232).size + ((⟨#[63]⟩ : ByteArray) ++ t233).size ≤ 9223372036854775807 then (impl_WriteRequest.j0 k (((a0_0 ++ (⟨#[32]⟩ : ByteArray)) ++ t232) ++ ((⟨#[63]⟩ : ByteArray) ++ t233)) a0_0 a0_1 l0_2 l0_3 a0_4) else (none)) else (none))) else (impl_WriteRequest.j0 k ((a0_0 ++ (⟨#[32]⟩ : ByteArray)) ++ t232) a0_0 a0_1 l0_2 l0_3 a0_4)) else (none))) else (none)) else (some (⟨#[]⟩ : ByteArray))) = some r := H
 have A2 := Aside0.mk A20
 clear A20
 by_cases c3 : t231 = 0
 rotate_left
 ·
  rw [if_neg c3] at H
  have c3b0 : (t231 == 0) = false := beq_eq_false_iff_ne.mpr c3
  have c3b1 : (t231 != 0) = true := bne_iff_ne.mpr c3
  obtain rfl := Option.some.inj H
  go_enter Tryd.func17, Tryd.ntmps17
  go_wp2_with (first | ((with_reducible refine gate_dst (N := 1) rfl ?_); refine box_event ?hg (N := 1) ?hd (cs := #[.string a0_0, .string a0_1, .slice A0_2 l0_2.length c0_2, .slice A0_3 l0_3.length c0_3, .string a0_4]) (t := 29) ?hr ?_; (case hd => rfl); (case hg => rfl); (case hr => first | (go_simp; done) | (go_simp; rfl)); intro gb230 hg w39 hbox hb; have n0_ := Aside0.mk (below_step (by first | exact Grow.bl HB.out | exact HB.out) hb); have n1_ := Aside0.mk (hbox); have n2_ := Aside0.mk ((by rw [hg]; exact (below_size (by first | exact Grow.bl HB.out | exact HB.out)) : w.heap.size ≤ gb230)); have n3_ := Aside0.mk ((by rw [hg]; exact (below_size (by first | exact Grow.bl HB.out | exact HB.out)) : w.heap.size ≤ gb230)); clear HB; have HB := n0_; have BK230 := n1_; have GW230 := n2_; have GE230 := n3_; clear n0_ n1_ n2_ n3_; clear hb hbox hg; have hcz40_0 : w39.cell? ⟨gb230, 0, none⟩ = some (.string a0_0) := (blk_cell BK230.out 0).trans rfl; have hcz40_1 : w39.cell? ⟨gb230, 1, none⟩ = some (.string a0_1) := (blk_cell BK230.out 1).trans rfl; have hcz40_2 : w39.cell? ⟨gb230, 2, none⟩ = some (.slice A0_2 l0_2.length c0_2) := (blk_cell BK230.out 2).trans rfl; have hcz40_3 : w39.cell? ⟨gb230, 3, none⟩ = some (.slice A0_3 l0_3.length c0_3) := (blk_cell BK230.out 3).trans rfl; have hcz40_4 : w39.cell? ⟨gb230, 4, none⟩ = some (.string a0_4) := (blk_cell BK230.out 4).trans rfl; have hfz40_0 := blk_frozen BK230.out 0; have hfz40_1 := blk_frozen BK230.out 1; have hfz40_2 := blk_frozen BK230.out 2; have hfz40_3 := blk_frozen BK230.out 3; have hfz40_4 := blk_frozen BK230.out 4) | ((with_reducible refine gate_callee (f := 9) rfl ?_); refine goesL_ (some 7) rfl rfl Tryd.func9 (by kernel_rfl) rfl #[.agg #[.string a0_0, .string a0_1, .slice A0_2 l0_2.length c0_2, .slice A0_3 l0_3.length c0_3, .string a0_4]] rfl (by (try simp only [List.map_toArray, List.map_cons, List.map_nil]); first | done | rfl | (simp only [List.length_drop, List.length_take]; rfl)) ?_; (with_reducible refine (impl_RequestFault.calls k a0_0 a0_1 _ _ l0_2 _ _ l0_3 a0_4 t231 _ ?side1 ?side2 ?side3 ?side4 A2.out).mono ?_); (case side1 => first | exact Grow.cb HR0_2.out HB.out | exact Kd.C_below HR0_2.out HB.out); (case side2 => exact HC0_2.out); (case side3 => first | exact Grow.cb HR0_3.out HB.out | exact Kd.C_below HR0_3.out HB.out); (case side4 => exact HC0_3.out); rintro e w41 ⟨rfl, hb⟩; refine ⟨_, rfl, ?_⟩; have n0_ := Aside0.mk (blk_below (g := gb230) (o := .cells #[.string a0_0, .string a0_1, .slice A0_2 l0_2.length c0_2, .slice A0_3 l0_3.length c0_3, .string a0_4] 29 (0, 0)) (by first | exact Grow.bk BK230.out | exact BK230.out) hb); have n1_ := Aside0.mk (below_step (by repeat (first | (with_reducible first | exact HB.out | apply below_alloc | apply pw_below_drewN | apply below_drew1 | refine below_set ?_ GE230.out) | exact HB.out)) hb); clear BK230; clear HB; have BK230 := n0_; have HB := n1_; clear n0_ n1_; (try clear hb); (try clear hb2); (try clear hk); (try clear hi)))
  go_ret
  exact ⟨by first | rfl | (simp [errW_none, errW_some] <;> rfl) | (simp [*, errW_none, errW_some] <;> rfl), by repeat (first | (with_reducible first | exact HB.out | apply below_alloc | apply pw_below_drewN | apply below_drew1 | refine below_set ?_ GE230.out) | exact HB.out)⟩
 rw [if_pos c3] at H
 have c3b0 : (t231 == 0) = true := beq_iff_eq.mpr c3
 have c3b1 : (t231 != 0) = false := bne_eq_false_iff_eq.mpr c3
 clear c3
 by_cases c4 : a0_0.size + 1 ≤ 9223372036854775807
 rotate_left
 ·
  rw [if_neg c4] at H
  exact absurd H (by simp)
 rw [if_pos c4] at H
 have c4b0 := eq_true c4
 have c4b1 : decide (a0_0.size + 1 ≤ 9223372036854775807) = true := decide_eq_true c4
 try have c4b2 : (9223372036854775807 < a0_0.size + 1) = False := eq_false (Nat.not_lt.2 c4)
 replace H := Option.bind_eq_some_iff.mp H
 obtain ⟨t232, A50, H⟩ := H
 replace H : (if (a0_0 ++ (⟨#[32]⟩ : ByteArray)).size + t232.size ≤ 9223372036854775807 then (if (l0_2.length : Int) > 0 then ((impl_writeQuery.f k l0_2).bind fun t233 => (if 1 + t233.size ≤ 9223372036854775807 then (if ((a0_0 ++ (⟨#[32]⟩ : ByteArray)) ++ t232).size + ((⟨#[63]⟩ : ByteArray) ++ t233).size ≤ 9223372036854775807 then (impl_WriteRequest.j0 k (((a0_0 ++ (⟨#[32]⟩ : ByteArray)) ++ t232) ++ ((⟨#[63]⟩ : ByteArray) ++ t233)) a0_0 a0_1 l0_2 l0_3 a0_4) else (none)) else (none))) else (impl_WriteRequest.j0 k ((a0_0 ++ (⟨#[32]⟩ : ByteArray)) ++ t232) a0_0 a0_1 l0_2 l0_3 a0_4)) else (none)) = some r := H
 have A5 := Aside0.mk A50
 clear A50
 by_cases c6 : (a0_0 ++ (⟨#[32]⟩ : ByteArray)).size + t232.size ≤ 9223372036854775807
 rotate_left
 ·
  rw [if_neg c6] at H
  exact absurd H (by simp)
 rw [if_pos c6] at H
 have c6b0 := eq_true c6
 have c6z := c6
 simp only [ByteArray.size_append, show (⟨#[32]⟩ : ByteArray).size = 1 from rfl] at c6z
 have c6z0 := eq_true c6z
 have c6z1 := decide_eq_true c6z
 try have c6z2 := eq_false (Nat.not_lt.2 c6z)
 have c6b1 : decide ((a0_0 ++ (⟨#[32]⟩ : ByteArray)).size + t232.size ≤ 9223372036854775807) = true := decide_eq_true c6
 try have c6b2 : (9223372036854775807 < (a0_0 ++ (⟨#[32]⟩ : ByteArray)).size + t232.size) = False := eq_false (Nat.not_lt.2 c6)
 have HC7 := Aside0.mk H
 clear H
 go_enter Tryd.func17, Tryd.ntmps17
 try go_wp2_with (first | ((with_reducible refine gate_dst (N := 1) rfl ?_); refine box_event ?hg (N := 1) ?hd (cs := #[.string a0_0, .string a0_1, .slice A0_2 l0_2.length c0_2, .slice A0_3 l0_3.length c0_3, .string a0_4]) (t := 29) ?hr ?_; (case hd => rfl); (case hg => rfl); (case hr => first | (go_simp; done) | (go_simp; rfl)); intro gb230 hg w8 hbox hb; have n0_ := Aside0.mk (below_step (by first | exact Grow.bl HB.out | exact HB.out) hb); have n1_ := Aside0.mk (hbox); have n2_ := Aside0.mk ((by rw [hg]; exact (below_size (by first | exact Grow.bl HB.out | exact HB.out)) : w.heap.size ≤ gb230)); have n3_ := Aside0.mk ((by rw [hg]; exact (below_size (by first | exact Grow.bl HB.out | exact HB.out)) : w.heap.size ≤ gb230)); clear HB; have HB := n0_; have BK230 := n1_; have GW230 := n2_; have GE230 := n3_; clear n0_ n1_ n2_ n3_; clear hb hbox hg; have hcz9_0 : w8.cell? ⟨gb230, 0, none⟩ = some (.string a0_0) := (blk_cell BK230.out 0).trans rfl; have hcz9_1 : w8.cell? ⟨gb230, 1, none⟩ = some (.string a0_1) := (blk_cell BK230.out 1).trans rfl; have hcz9_2 : w8.cell? ⟨gb230, 2, none⟩ = some (.slice A0_2 l0_2.length c0_2) := (blk_cell BK230.out 2).trans rfl; have hcz9_3 : w8.cell? ⟨gb230, 3, none⟩ = some (.slice A0_3 l0_3.length c0_3) := (blk_cell BK230.out 3).trans rfl; have hcz9_4 : w8.cell? ⟨gb230, 4, none⟩ = some (.string a0_4) := (blk_cell BK230.out 4).trans rfl; have hfz9_0 := blk_frozen BK230.out 0; have hfz9_1 := blk_frozen BK230.out 1; have hfz9_2 := blk_frozen BK230.out 2; have hfz9_3 := blk_frozen BK230.out 3; have hfz9_4 := blk_frozen BK230.out 4) | ((with_reducible refine gate_callee (f := 9) rfl ?_); refine goesL_ (some 7) rfl rfl Tryd.func9 (by kernel_rfl) rfl #[.agg #[.string a0_0, .string a0_1, .slice A0_2 l0_2.length c0_2, .slice A0_3 l0_3.length c0_3, .string a0_4]] rfl (by (try simp only [List.map_toArray, List.map_cons, List.map_nil]); first | done | rfl | (simp only [List.length_drop, List.length_take]; rfl)) ?_; (with_reducible refine (impl_RequestFault.calls k a0_0 a0_1 _ _ l0_2 _ _ l0_3 a0_4 t231 _ ?side1 ?side2 ?side3 ?side4 A2.out).mono ?_); (case side1 => first | exact Grow.cb HR0_2.out HB.out | exact Kd.C_below HR0_2.out HB.out); (case side2 => exact HC0_2.out); (case side3 => first | exact Grow.cb HR0_3.out HB.out | exact Kd.C_below HR0_3.out HB.out); (case side4 => exact HC0_3.out); rintro e w10 ⟨rfl, hb⟩; refine ⟨_, rfl, ?_⟩; have n0_ := Aside0.mk (blk_below (g := gb230) (o := .cells #[.string a0_0, .string a0_1, .slice A0_2 l0_2.length c0_2, .slice A0_3 l0_3.length c0_3, .string a0_4] 29 (0, 0)) (by first | exact Grow.bk BK230.out | exact BK230.out) hb); have n1_ := Aside0.mk (below_step (by repeat (first | (with_reducible first | exact HB.out | apply below_alloc | apply pw_below_drewN | apply below_drew1 | refine below_set ?_ GE230.out) | exact HB.out)) hb); clear BK230; clear HB; have BK230 := n0_; have HB := n1_; clear n0_ n1_; (try clear hb); (try clear hb2); (try clear hk); (try clear hi)))
 have n0_ := Aside0.mk (blk_drew BK230.out)
 have n1_ := Aside0.mk (below_drew1 HB.out)
 clear BK230
 clear HB
 have BK230 := n0_
 have HB := n1_
 clear n0_ n1_
 refine start_ (n := 8) (S := fun w' => w'.cell? ⟨gb230, 0, none⟩ = some (.string a0_0) ∧ w'.cell? ⟨gb230, 1, none⟩ = some (.string a0_1) ∧ w'.cell? ⟨gb230, 2, none⟩ = some (.slice A0_2 l0_2.length c0_2) ∧ w'.cell? ⟨gb230, 3, none⟩ = some (.slice A0_3 l0_3.length c0_3) ∧ w'.cell? ⟨gb230, 4, none⟩ = some (.string a0_4)) (ds := []) zf22 (by kernel_rfl) rfl rfl ⟨(blk_cell BK230.out 0).trans rfl, (blk_cell BK230.out 1).trans rfl, (blk_cell BK230.out 2).trans rfl, (blk_cell BK230.out 3).trans rfl, (blk_cell BK230.out 4).trans rfl⟩ (fun hHeld => ?_); refine with_tabW impl_WriteRequest.tab3 impl_WriteRequest.bits3 (fun HT_ HW_ => ?_)
 generalize w10.drew = w11 at BK230 HB hHeld ⊢
 refine Cap.pu (v := ?_) (a' := ?_) 0 (some 9) zf23 HT_ rfl rfl (by kernel_rfl) (fun _ _ _ h => h) (Or.inl ⟨by rfl, ?_⟩) ?_ ?_; rotate_left; intro w'; go_simp; with_reducible rfl; rotate_left; simp only [Cap.pz]; rfl
 refine Cap.pu (v := ?_) (a' := ?_) 3 (some 12) zf24 HT_ rfl rfl (by kernel_rfl) (fun _ _ _ h => h) (Or.inl ⟨by rfl, ?_⟩) ?_ ?_; rotate_left; intro w'; go_simp; with_reducible rfl; rotate_left; simp only [Cap.pz]; rfl
 refine take_ (i := 1) (N := some 10) (v := ?_) (a' := ?_) zf25 rfl rfl (take_ofW HT_.out HW_.out (by kernel_rfl)) (fun _ _ _ h => h) (Or.inl ⟨by rfl, ?_⟩) hHeld ?_ ?_; rotate_left; rintro w' ⟨s0, s1, s2, s3, s4⟩; go_simp; with_reducible rfl; rotate_left; simp only [Cap.pz]; rfl
 refine Cap.pu (v := ?_) (a' := ?_) 2 (some 11) zf26 HT_ rfl rfl (by kernel_rfl) (fun _ _ _ h => h) (Or.inl ⟨by rfl, ?_⟩) ?_ ?_; rotate_left; intro w'; go_simp; with_reducible rfl; rotate_left; simp only [Cap.pz]; rfl
 refine take_ (i := 4) (N := some 13) (v := ?_) (a' := ?_) zf27 rfl rfl (take_ofW HT_.out HW_.out (by kernel_rfl)) (fun _ _ _ h => h) (Or.inl ⟨by rfl, ?_⟩) hHeld ?_ ?_; rotate_left; rintro w' ⟨s0, s1, s2, s3, s4⟩; go_simp; with_reducible rfl; rotate_left; simp only [Cap.pz]; rfl
 refine one_ (i := 5) (N := some 14) zf28 rfl rfl (one_of HT_.out (by kernel_rfl)) (by decide) (fun K hK => ?_)
 refine goes_ Tryd.func40 (by kernel_rfl) rfl #[.string a0_1] (by rfl) rfl rfl (by (try simp only [List.map_toArray, List.map_cons, List.map_nil]); first | done | rfl | (simp only [List.length_drop, List.length_take]; rfl)) ?_
 with_reducible refine (impl_escaped.calls k a0_1 t232 _ A5.out).mono ?_
 rintro e w12 ⟨rfl, hb⟩
 refine ⟨_, rfl, ?_⟩
 have n0_ := Aside0.mk (blk_below (g := gb230) (o := .cells #[.string a0_0, .string a0_1, .slice A0_2 l0_2.length c0_2, .slice A0_3 l0_3.length c0_3, .string a0_4] 29 (0, 0)) (by first | exact Grow.bk BK230.out | exact BK230.out) hb)
 have n1_ := Aside0.mk (below_step (by repeat (first | (with_reducible first | exact HB.out | apply below_alloc | apply pw_below_drewN | apply below_drew1 | refine below_set ?_ GE230.out) | exact HB.out)) hb)
 clear BK230
 clear HB
 have BK230 := n0_
 have HB := n1_
 clear n0_ n1_
 (try clear hb)
 (try clear hb2)
 (try clear hk)
 (try clear hi)
 refine hK.out _ _ ⟨(blk_cell BK230.out 0).trans rfl, (blk_cell BK230.out 1).trans rfl, (blk_cell BK230.out 2).trans rfl, (blk_cell BK230.out 3).trans rfl, (blk_cell BK230.out 4).trans rfl⟩ (fun hHeld => ?_)
 clear hK K
 refine norm_ (a' := ?_) ?_ ?_; rotate_left; show Act.put _ (some 14) _ = _; simp only [Cap.pz]; rfl
 refine Cap.pu (v := ?_) (a' := ?_) 6 (some 15) zf29 HT_ rfl rfl (by kernel_rfl) (fun _ _ _ h => h) (Or.inl ⟨by rfl, ?_⟩) ?_ ?_; rotate_left; intro w'; go_simp; with_reducible rfl; rotate_left; simp only [Cap.pz]; rfl
 refine Cap.pu (v := ?_) (a' := ?_) 7 (some 3) zf30 HT_ rfl rfl (by kernel_rfl) (fun _ _ _ h => h) (Or.inl ⟨by rfl, ?_⟩) ?_ ?_; rotate_left; intro w'; go_simp; with_reducible rfl; rotate_left; simp only [Cap.pz]; rfl
 refine done_ (done_of HT_.out (by kernel_rfl)) ?_
 have hcz13_0 : w12.cell? ⟨gb230, 0, none⟩ = some (.string a0_0) := (blk_cell BK230.out 0).trans rfl
 have hcz13_1 : w12.cell? ⟨gb230, 1, none⟩ = some (.string a0_1) := (blk_cell BK230.out 1).trans rfl
 have hcz13_2 : w12.cell? ⟨gb230, 2, none⟩ = some (.slice A0_2 l0_2.length c0_2) := (blk_cell BK230.out 2).trans rfl
 have hcz13_3 : w12.cell? ⟨gb230, 3, none⟩ = some (.slice A0_3 l0_3.length c0_3) := (blk_cell BK230.out 3).trans rfl
 have hcz13_4 : w12.cell? ⟨gb230, 4, none⟩ = some (.string a0_4) := (blk_cell BK230.out 4).trans rfl
 have hfz13_0 := blk_frozen BK230.out 0
 have hfz13_1 := blk_frozen BK230.out 1
 have hfz13_2 := blk_frozen BK230.out 2
 have hfz13_3 := blk_frozen BK230.out 3
 have hfz13_4 := blk_frozen BK230.out 4
 go_upto_if 19 with (fail)
 go_cut [3] (fun v3 wc => ∃ (kq : Nat) (x3_6 : ByteArray), v3 = .string x3_6 ∧ Aside0 (impl_WriteRequest.j0 kq x3_6 a0_0 a0_1 l0_2 l0_3 a0_4 = some r) ∧ Aside0 (kq ≤ k) ∧ Aside0 (wc.heap[gb230]? = some (.cells #[.string a0_0, .string a0_1, (.slice A0_2 l0_2.length c0_2), (.slice A0_3 l0_3.length c0_3), .string a0_4] 29 (0, 0))) ∧ Aside0 (Below w.heap.size w wc))
 case first =>
  have H := HC7.out
  clear HC7
  by_cases c14 : (l0_2.length : Int) > 0
  rotate_left
  ·
   rw [if_neg c14] at H
   have c14b0 : decide (0 < (l0_2.length : Int)) = false := decide_eq_false c14
   have c14b1 : decide (0 < l0_2.length) = false := decide_eq_false (by omega)
   clear c14
   (first | rw [c14b0] | rw [c14b1] | (simp only [i64_w, i32_w]; rw [c14b0]) | skip)
   have H' := Aside0.mk H
   clear H
   go_wp2
   go_meet
   case rel => exact ⟨_, ((a0_0 ++ (⟨#[32]⟩ : ByteArray)) ++ t232), (by first | rfl | (simp; done) | (simp [*]; done)), H', ⟨by first | omega | exact Nat.le_refl _⟩, ⟨by first | exact Grow.bk BK230.out | exact BK230.out⟩, ⟨by repeat (first | (with_reducible first | exact HB.out | apply below_alloc | apply pw_below_drewN | apply below_drew1 | refine below_set ?_ GE230.out) | exact HB.out)⟩⟩
  rw [if_pos c14] at H
  have c14b0 : decide (0 < (l0_2.length : Int)) = true := decide_eq_true c14
  have c14b1 : decide (0 < l0_2.length) = true := decide_eq_true (by omega)
  clear c14
  (first | rw [c14b0] | rw [c14b1] | (simp only [i64_w, i32_w]; rw [c14b0]) | skip)
  replace H := Option.bind_eq_some_iff.mp H
  obtain ⟨t233, A150, H⟩ := H
  replace H : (if 1 + t233.size ≤ 9223372036854775807 then (if ((a0_0 ++ (⟨#[32]⟩ : ByteArray)) ++ t232).size + ((⟨#[63]⟩ : ByteArray) ++ t233).size ≤ 9223372036854775807 then (impl_WriteRequest.j0 k (((a0_0 ++ (⟨#[32]⟩ : ByteArray)) ++ t232) ++ ((⟨#[63]⟩ : ByteArray) ++ t233)) a0_0 a0_1 l0_2 l0_3 a0_4) else (none)) else (none)) = some r := H
  have A15 := Aside0.mk A150
  clear A150
  by_cases c16 : 1 + t233.size ≤ 9223372036854775807
  rotate_left
  ·
   rw [if_neg c16] at H
   exact absurd H (by simp)
  rw [if_pos c16] at H
  have c16b0 := eq_true c16
  have c16b1 : decide (1 + t233.size ≤ 9223372036854775807) = true := decide_eq_true c16
  try have c16b2 : (9223372036854775807 < 1 + t233.size) = False := eq_false (Nat.not_lt.2 c16)
  by_cases c17 : ((a0_0 ++ (⟨#[32]⟩ : ByteArray)) ++ t232).size + ((⟨#[63]⟩ : ByteArray) ++ t233).size ≤ 9223372036854775807
  rotate_left
  ·
   rw [if_neg c17] at H
   exact absurd H (by simp)
  rw [if_pos c17] at H
  have c17b0 := eq_true c17
  have c17z := c17
  simp only [ByteArray.size_append, show (⟨#[32]⟩ : ByteArray).size = 1 from rfl, show (⟨#[63]⟩ : ByteArray).size = 1 from rfl] at c17z
  have c17z0 := eq_true c17z
  have c17z1 := decide_eq_true c17z
  try have c17z2 := eq_false (Nat.not_lt.2 c17z)
  have c17b1 : decide (((a0_0 ++ (⟨#[32]⟩ : ByteArray)) ++ t232).size + ((⟨#[63]⟩ : ByteArray) ++ t233).size ≤ 9223372036854775807) = true := decide_eq_true c17
  try have c17b2 : (9223372036854775807 < ((a0_0 ++ (⟨#[32]⟩ : ByteArray)) ++ t232).size + ((⟨#[63]⟩ : ByteArray) ++ t233).size) = False := eq_false (Nat.not_lt.2 c17)
  have H' := Aside0.mk H
  clear H
  have hcz18_0 : w12.cell? ⟨gb230, 0, none⟩ = some (.string a0_0) := (blk_cell BK230.out 0).trans rfl
  have hcz18_1 : w12.cell? ⟨gb230, 1, none⟩ = some (.string a0_1) := (blk_cell BK230.out 1).trans rfl
  have hcz18_2 : w12.cell? ⟨gb230, 2, none⟩ = some (.slice A0_2 l0_2.length c0_2) := (blk_cell BK230.out 2).trans rfl
  have hcz18_3 : w12.cell? ⟨gb230, 3, none⟩ = some (.slice A0_3 l0_3.length c0_3) := (blk_cell BK230.out 3).trans rfl
  have hcz18_4 : w12.cell? ⟨gb230, 4, none⟩ = some (.string a0_4) := (blk_cell BK230.out 4).trans rfl
  have hfz18_0 := blk_frozen BK230.out 0
  have hfz18_1 := blk_frozen BK230.out 1
  have hfz18_2 := blk_frozen BK230.out 2
  have hfz18_3 := blk_frozen BK230.out 3
  have hfz18_4 := blk_frozen BK230.out 4
  go_wp2_with (first | ((with_reducible refine gate_callee (f := 41) rfl ?_); refine goesL_ (some 23) rfl rfl Tryd.func41 (by kernel_rfl) rfl #[.slice A0_2 l0_2.length c0_2] rfl (by (try simp only [List.map_toArray, List.map_cons, List.map_nil]); first | done | rfl | (simp only [List.length_drop, List.length_take]; rfl)) ?_; (with_reducible refine (impl_writeQuery.calls k _ _ l0_2 t233 _ ?side1 ?side2 A15.out).mono ?_); (case side1 => first | exact Grow.cb HR0_2.out HB.out | exact Kd.C_below HR0_2.out HB.out); (case side2 => exact HC0_2.out); rintro e w19 ⟨rfl, hb⟩; refine ⟨_, rfl, ?_⟩; have n0_ := Aside0.mk (blk_below (g := gb230) (o := .cells #[.string a0_0, .string a0_1, .slice A0_2 l0_2.length c0_2, .slice A0_3 l0_3.length c0_3, .string a0_4] 29 (0, 0)) (by first | exact Grow.bk BK230.out | exact BK230.out) hb); have n1_ := Aside0.mk (below_step (by repeat (first | (with_reducible first | exact HB.out | apply below_alloc | apply pw_below_drewN | apply below_drew1 | refine below_set ?_ GE230.out) | exact HB.out)) hb); clear BK230; clear HB; have BK230 := n0_; have HB := n1_; clear n0_ n1_; (try clear hb); (try clear hb2); (try clear hk); (try clear hi)))
  go_meet
  case rel => exact ⟨_, (((a0_0 ++ (⟨#[32]⟩ : ByteArray)) ++ t232) ++ ((⟨#[63]⟩ : ByteArray) ++ t233)), (by first | rfl | (simp; done) | (simp [*]; done)), H', ⟨by first | omega | exact Nat.le_refl _⟩, ⟨by first | exact Grow.bk BK230.out | exact BK230.out⟩, ⟨by repeat (first | (with_reducible first | exact HB.out | apply below_alloc | apply pw_below_drewN | apply below_drew1 | refine below_set ?_ GE230.out) | exact HB.out)⟩⟩
 case rest =>
  clear HC7
  try clear c1
  try clear p2
  try clear c3
  try clear c3b0
  try clear c3b1
  try clear c4
  try clear c4b0
  try clear c4b1
  try clear c4b2
  try clear c6
  try clear c6b0
  try clear c6b1
  try clear c6b2
  try clear c9
  try clear c14
  try clear c14b0
  try clear c14b1
  try clear c16
  try clear c16b0
  try clear c16b1
  try clear c16b2
  try clear c17
  try clear c17b0
  try clear c17b1
  try clear c17b2
  try clear hcz13_0
  try clear hcz13_1
  try clear hcz13_2
  try clear hcz13_3
  try clear hcz13_4
  try clear hcz18_0
  try clear hcz18_1
  try clear hcz18_2
  try clear hcz18_3
  try clear hcz18_4
  try clear hcz9_0
  try clear hcz9_1
  try clear hcz9_2
  try clear hcz9_3
  try clear hcz9_4
  try clear hfz13_0
  try clear hfz13_1
  try clear hfz13_2
  try clear hfz13_3
  try clear hfz13_4
  try clear hfz18_0
  try clear hfz18_1
  try clear hfz18_2
  try clear hfz18_3
  try clear hfz18_4
  try clear hfz9_0
  try clear hfz9_1
  try clear hfz9_2
  try clear hfz9_3
  try clear hfz9_4
  obtain ⟨kq, x3_6, rfl, HA, HJ6, BK230, HB⟩ := hcut
  cases kq with
  | zero => exact absurd HA.out (by simp [impl_WriteRequest.j0])
  | succ kj6 =>
   have H := HA.out
   clear HA
   simp only [impl_WriteRequest.j0] at H
   by_cases c20 : x3_6.size + 1 ≤ 9223372036854775807
   rotate_left
   ·
    rw [if_neg c20] at H
    exact absurd H (by simp)
   rw [if_pos c20] at H
   have c20b0 := eq_true c20
   have c20b1 : decide (x3_6.size + 1 ≤ 9223372036854775807) = true := decide_eq_true c20
   try have c20b2 : (9223372036854775807 < x3_6.size + 1) = False := eq_false (Nat.not_lt.2 c20)
   have H' := Aside0.mk H
   clear H
   have hcz21_0 : wc.cell? ⟨gb230, 0, none⟩ = some (.string a0_0) := (blk_cell BK230.out 0).trans rfl
   have hcz21_1 : wc.cell? ⟨gb230, 1, none⟩ = some (.string a0_1) := (blk_cell BK230.out 1).trans rfl
   have hcz21_2 : wc.cell? ⟨gb230, 2, none⟩ = some (.slice A0_2 l0_2.length c0_2) := (blk_cell BK230.out 2).trans rfl
   have hcz21_3 : wc.cell? ⟨gb230, 3, none⟩ = some (.slice A0_3 l0_3.length c0_3) := (blk_cell BK230.out 3).trans rfl
   have hcz21_4 : wc.cell? ⟨gb230, 4, none⟩ = some (.string a0_4) := (blk_cell BK230.out 4).trans rfl
   have hfz21_0 := blk_frozen BK230.out 0
   have hfz21_1 := blk_frozen BK230.out 1
   have hfz21_2 := blk_frozen BK230.out 2
   have hfz21_3 := blk_frozen BK230.out 3
   have hfz21_4 := blk_frozen BK230.out 4
   go_wp2
   go_loopg [3, 31] kj6 (fun kq v3 v31 w' => ∃ (x3_2 : ByteArray) (x31_2 : Int), v3 = .string x3_2 ∧ v31 = .int .i64 x31_2 ∧ Aside0 (impl_WriteRequest.l0 kq x3_2 l0_3 (l0_3.length : Int) x31_2 a0_0 a0_1 l0_2 l0_3 a0_4 = some r) ∧ Aside0 (kq ≤ kj6) ∧ Aside0 (w'.heap[gb230]? = some (.cells #[.string a0_0, .string a0_1, (.slice A0_2 l0_2.length c0_2), (.slice A0_3 l0_3.length c0_3), .string a0_4] 29 (0, 0))) ∧ Aside0 (Below w.heap.size w w'))
   case atStart => exact ⟨(x3_6 ++ (⟨#[10]⟩ : ByteArray)), (0), (by first | rfl | (simp; done) | (simp [*]; done)), (by first | rfl | (simp; done) | (simp [*]; done)), H', ⟨Nat.le_refl _⟩, ⟨by first | exact Grow.bk BK230.out | exact BK230.out⟩, ⟨by repeat (first | (with_reducible first | exact HB.out | apply below_alloc | apply pw_below_drewN | apply below_drew1 | refine below_set ?_ GE230.out) | exact HB.out)⟩⟩
   case round =>
    clear H'
    try clear c1
    try clear c2
    try clear p2
    try clear c3
    try clear c3b0
    try clear c3b1
    try clear c4
    try clear c4b0
    try clear c4b1
    try clear c4b2
    try clear c6
    try clear c6b0
    try clear c6b1
    try clear c6b2
    try clear c9
    try clear c14
    try clear c14b0
    try clear c14b1
    try clear c16
    try clear c16b0
    try clear c16b1
    try clear c16b2
    try clear c17
    try clear c17b0
    try clear c17b1
    try clear c17b2
    try clear c20
    try clear c20b0
    try clear c20b1
    try clear c20b2
    try clear hcz13_0
    try clear hcz13_1
    try clear hcz13_2
    try clear hcz13_3
    try clear hcz13_4
    try clear hcz18_0
    try clear hcz18_1
    try clear hcz18_2
    try clear hcz18_3
    try clear hcz18_4
    try clear hcz21_0
    try clear hcz21_1
    try clear hcz21_2
    try clear hcz21_3
    try clear hcz21_4
    try clear hcz9_0
    try clear hcz9_1
    try clear hcz9_2
    try clear hcz9_3
    try clear hcz9_4
    try clear hfz13_0
    try clear hfz13_1
    try clear hfz13_2
    try clear hfz13_3
    try clear hfz13_4
    try clear hfz18_0
    try clear hfz18_1
    try clear hfz18_2
    try clear hfz18_3
    try clear hfz18_4
    try clear hfz21_0
    try clear hfz21_1
    try clear hfz21_2
    try clear hfz21_3
    try clear hfz21_4
    try clear hfz9_0
    try clear hfz9_1
    try clear hfz9_2
    try clear hfz9_3
    try clear hfz9_4
    try clear p2
    obtain ⟨x3_2, x31_2, rfl, rfl, HA, HK2, BK230, HB⟩ := hrel
    cases gk with
    | zero => exact absurd HA.out (by simp [impl_WriteRequest.l0])
    | succ k2 =>
     have H := HA.out
     clear HA
     simp only [impl_WriteRequest.l0] at H
     by_cases c22 : x31_2 < (l0_3.length : Int)
     ·
      rw [if_pos c22] at H
      have c22b0 : decide (x31_2 < (l0_3.length : Int)) = true := decide_eq_true c22
      clear c22
      by_cases c23 : 0 ≤ x31_2
      rotate_left
      ·
       rw [if_neg c23] at H
       exact absurd H (by simp)
      rw [if_pos c23] at H
      have c23b0 : decide (0 ≤ x31_2) = true := decide_eq_true c23
      clear c23
      by_cases c24 : x31_2 < (l0_3.length : Int)
      rotate_left
      ·
       exact absurd (of_decide_eq_true c22b0) c24
      rw [if_pos c24] at H
      have c24b0 : decide (x31_2 < (l0_3.length : Int)) = true := decide_eq_true c24
      clear c24
      by_cases c25 : ((rd_T45 l0_3 x31_2).f0).size + 2 ≤ 9223372036854775807
      rotate_left
      ·
       rw [if_neg c25] at H
       exact absurd H (by simp)
      rw [if_pos c25] at H
      have c25b0 := eq_true c25
      have c25b1 : decide (((rd_T45 l0_3 x31_2).f0).size + 2 ≤ 9223372036854775807) = true := decide_eq_true c25
      try have c25b2 : (9223372036854775807 < ((rd_T45 l0_3 x31_2).f0).size + 2) = False := eq_false (Nat.not_lt.2 c25)
      by_cases c26 : (((rd_T45 l0_3 x31_2).f0) ++ (⟨#[58, 32]⟩ : ByteArray)).size + ((rd_T45 l0_3 x31_2).f1).size ≤ 9223372036854775807
      rotate_left
      ·
       rw [if_neg c26] at H
       exact absurd H (by simp)
      rw [if_pos c26] at H
      have c26b0 := eq_true c26
      have c26z := c26
      simp only [ByteArray.size_append, show (⟨#[58, 32]⟩ : ByteArray).size = 2 from rfl] at c26z
      have c26z0 := eq_true c26z
      have c26z1 := decide_eq_true c26z
      try have c26z2 := eq_false (Nat.not_lt.2 c26z)
      have c26b1 : decide ((((rd_T45 l0_3 x31_2).f0) ++ (⟨#[58, 32]⟩ : ByteArray)).size + ((rd_T45 l0_3 x31_2).f1).size ≤ 9223372036854775807) = true := decide_eq_true c26
      try have c26b2 : (9223372036854775807 < (((rd_T45 l0_3 x31_2).f0) ++ (⟨#[58, 32]⟩ : ByteArray)).size + ((rd_T45 l0_3 x31_2).f1).size) = False := eq_false (Nat.not_lt.2 c26)
      by_cases c27 : ((((rd_T45 l0_3 x31_2).f0) ++ (⟨#[58, 32]⟩ : ByteArray)) ++ ((rd_T45 l0_3 x31_2).f1)).size + 1 ≤ 9223372036854775807
      rotate_left
      ·
       rw [if_neg c27] at H
       exact absurd H (by simp)
      rw [if_pos c27] at H
      have c27b0 := eq_true c27
      have c27z := c27
      simp only [ByteArray.size_append, show (⟨#[58, 32]⟩ : ByteArray).size = 2 from rfl] at c27z
      have c27z0 := eq_true c27z
      have c27z1 := decide_eq_true c27z
      try have c27z2 := eq_false (Nat.not_lt.2 c27z)
      have c27b1 : decide (((((rd_T45 l0_3 x31_2).f0) ++ (⟨#[58, 32]⟩ : ByteArray)) ++ ((rd_T45 l0_3 x31_2).f1)).size + 1 ≤ 9223372036854775807) = true := decide_eq_true c27
      try have c27b2 : (9223372036854775807 < ((((rd_T45 l0_3 x31_2).f0) ++ (⟨#[58, 32]⟩ : ByteArray)) ++ ((rd_T45 l0_3 x31_2).f1)).size + 1) = False := eq_false (Nat.not_lt.2 c27)
      by_cases c28 : x3_2.size + (((((rd_T45 l0_3 x31_2).f0) ++ (⟨#[58, 32]⟩ : ByteArray)) ++ ((rd_T45 l0_3 x31_2).f1)) ++ (⟨#[10]⟩ : ByteArray)).size ≤ 9223372036854775807
      rotate_left
      ·
       rw [if_neg c28] at H
       exact absurd H (by simp)
      rw [if_pos c28] at H
      have c28b0 := eq_true c28
      have c28z := c28
      simp only [ByteArray.size_append, show (⟨#[10]⟩ : ByteArray).size = 1 from rfl, show (⟨#[58, 32]⟩ : ByteArray).size = 2 from rfl] at c28z
      have c28z0 := eq_true c28z
      have c28z1 := decide_eq_true c28z
      try have c28z2 := eq_false (Nat.not_lt.2 c28z)
      have c28b1 : decide (x3_2.size + (((((rd_T45 l0_3 x31_2).f0) ++ (⟨#[58, 32]⟩ : ByteArray)) ++ ((rd_T45 l0_3 x31_2).f1)) ++ (⟨#[10]⟩ : ByteArray)).size ≤ 9223372036854775807) = true := decide_eq_true c28
      try have c28b2 : (9223372036854775807 < x3_2.size + (((((rd_T45 l0_3 x31_2).f0) ++ (⟨#[58, 32]⟩ : ByteArray)) ++ ((rd_T45 l0_3 x31_2).f1)) ++ (⟨#[10]⟩ : ByteArray)).size) = False := eq_false (Nat.not_lt.2 c28)
      have H' := Aside0.mk H
      clear H
      have p234 : 0 ≤ (x31_2 : Int) := of_decide_eq_true (by first | (with_reducible assumption) | assumption)
      have q234 : x31_2 < (l0_3.length : Int) := of_decide_eq_true (by first | (with_reducible assumption) | assumption)
      obtain ⟨ad234, e234, hx234_0, hx234_1⟩ := at_T45 HR0_3.out x31_2 p234 q234
      cases e234
      replace hx234_0 := Grow.bc HB.out hx234_0
      replace hx234_1 := Grow.bc HB.out hx234_1
      replace p234 := eq_true p234
      replace q234 := eq_true q234
      go_wp2_with (first | ((with_reducible refine gate_dst (N := 5) rfl ?_); refine box_event ?hg (N := 5) ?hd (cs := #[.string (⟨#[]⟩ : ByteArray), .string (⟨#[]⟩ : ByteArray)]) (t := 45) ?hr ?_; (case hd => rfl); (case hg => rfl); (case hr => first | (go_simp; done) | (go_simp; rfl)); intro gb235 hg w29 hbox hb; have n0_ := Aside0.mk (blk_below (g := gb230) (o := .cells #[.string a0_0, .string a0_1, .slice A0_2 l0_2.length c0_2, .slice (some ad234) l0_3.length c0_3, .string a0_4] 29 (0, 0)) (by first | exact Grow.bk BK230.out | exact BK230.out) hb); have n1_ := Aside0.mk (below_step (by repeat (first | (with_reducible first | exact HB.out | apply below_alloc | apply pw_below_drewN | apply below_drew1 | refine below_set ?_ GE230.out) | exact HB.out)) hb); have n2_ := Aside0.mk (hbox); have n3_ := Aside0.mk ((by rw [hg]; exact (below_size (by repeat (first | (with_reducible first | exact HB.out | apply below_alloc | apply pw_below_drewN | apply below_drew1 | refine below_set ?_ GE230.out) | exact HB.out))) : w.heap.size ≤ gb235)); have n4_ := Aside0.mk ((by rw [hg]; exact (below_size (by repeat (first | (with_reducible first | exact HB.out | apply below_alloc | apply pw_below_drewN | apply below_drew1 | refine below_set ?_ GE230.out) | exact HB.out))) : w.heap.size ≤ gb235)); have n5_ := Aside0.mk ((by rw [hg]; exact Nat.ne_of_lt (blk_lt (g := gb230) (o := .cells #[.string a0_0, .string a0_1, .slice A0_2 l0_2.length c0_2, .slice (some ad234) l0_3.length c0_3, .string a0_4] 29 (0, 0)) (by first | exact Grow.bk BK230.out | exact BK230.out)) : gb230 ≠ gb235)); have n6_ := Aside0.mk ((by rw [hg]; exact Nat.ne_of_gt (blk_lt (g := gb230) (o := .cells #[.string a0_0, .string a0_1, .slice A0_2 l0_2.length c0_2, .slice (some ad234) l0_3.length c0_3, .string a0_4] 29 (0, 0)) (by first | exact Grow.bk BK230.out | exact BK230.out)) : gb235 ≠ gb230)); clear BK230; clear HB; have BK230 := n0_; have HB := n1_; have BK235 := n2_; have GW235 := n3_; have GE235 := n4_; have NB230_235 := n5_; have NB235_230 := n6_; clear n0_ n1_ n2_ n3_ n4_ n5_ n6_; clear hb hbox hg; have hnb30 := NB235_230.out; have hnc30 := NB230_235.out; have hcz31_0 : w29.cell? ⟨gb235, 0, none⟩ = some (.string (⟨#[]⟩ : ByteArray)) := (blk_cell BK235.out 0).trans rfl; have hcz31_1 : w29.cell? ⟨gb235, 1, none⟩ = some (.string (⟨#[]⟩ : ByteArray)) := (blk_cell BK235.out 1).trans rfl; have hfz31_0 := blk_frozen BK235.out 0; have hfz31_1 := blk_frozen BK235.out 1))
      go_roundg k2
      case measure => have := HJ6.out; have := HK2.out; omega
      case rel => exact ⟨(x3_2 ++ (((((rd_T45 l0_3 x31_2).f0) ++ (⟨#[58, 32]⟩ : ByteArray)) ++ ((rd_T45 l0_3 x31_2).f1)) ++ (⟨#[10]⟩ : ByteArray))), (wrap64 (x31_2 + 1)), (by first | rfl | (simp; done) | (simp [*]; done)), (by first | rfl | (simp; done) | (simp [*]; done)), H', ⟨by have := HJ6.out; have := HK2.out; omega⟩, ⟨by (with_reducible repeat (first | refine blk_drewN ?_ _ | refine blk_drew ?_ | refine blk_alloc ?_ _)); refine blk_far ?_ NB230_235.out _; (with_reducible repeat (first | refine blk_drewN ?_ _ | refine blk_drew ?_ | refine blk_alloc ?_ _)); refine blk_far ?_ NB230_235.out _; (with_reducible repeat (first | refine blk_drewN ?_ _ | refine blk_drew ?_ | refine blk_alloc ?_ _)); exact BK230.out⟩, ⟨by repeat (first | (with_reducible first | exact HB.out | apply below_alloc | apply pw_below_drewN | apply below_drew1 | refine below_set ?_ GE230.out | refine below_set ?_ GE235.out) | exact HB.out)⟩⟩
     rw [if_neg c22] at H
     have c22b0 : decide (x31_2 < (l0_3.length : Int)) = false := decide_eq_false c22
     clear c22
     by_cases c32 : x3_2.size + 8 ≤ 9223372036854775807
     rotate_left
     ·
      rw [if_neg c32] at H
      exact absurd H (by simp)
     rw [if_pos c32] at H
     have c32b0 := eq_true c32
     have c32b1 : decide (x3_2.size + 8 ≤ 9223372036854775807) = true := decide_eq_true c32
     try have c32b2 : (9223372036854775807 < x3_2.size + 8) = False := eq_false (Nat.not_lt.2 c32)
     replace H := Option.bind_eq_some_iff.mp H
     obtain ⟨t236, A330, H⟩ := H
     replace H : (if (x3_2 ++ (⟨#[108, 101, 110, 103, 116, 104, 58, 32]⟩ : ByteArray)).size + t236.size ≤ 9223372036854775807 then (if ((x3_2 ++ (⟨#[108, 101, 110, 103, 116, 104, 58, 32]⟩ : ByteArray)) ++ t236).size + 2 ≤ 9223372036854775807 then (if (((x3_2 ++ (⟨#[108, 101, 110, 103, 116, 104, 58, 32]⟩ : ByteArray)) ++ t236) ++ (⟨#[10, 10]⟩ : ByteArray)).size + a0_4.size ≤ 9223372036854775807 then (some ((((x3_2 ++ (⟨#[108, 101, 110, 103, 116, 104, 58, 32]⟩ : ByteArray)) ++ t236) ++ (⟨#[10, 10]⟩ : ByteArray)) ++ a0_4)) else (none)) else (none)) else (none)) = some r := H
     have A33 := Aside0.mk A330
     clear A330
     by_cases c34 : (x3_2 ++ (⟨#[108, 101, 110, 103, 116, 104, 58, 32]⟩ : ByteArray)).size + t236.size ≤ 9223372036854775807
     rotate_left
     ·
      rw [if_neg c34] at H
      exact absurd H (by simp)
     rw [if_pos c34] at H
     have c34b0 := eq_true c34
     have c34z := c34
     simp only [ByteArray.size_append, show (⟨#[108, 101, 110, 103, 116, 104, 58, 32]⟩ : ByteArray).size = 8 from rfl] at c34z
     have c34z0 := eq_true c34z
     have c34z1 := decide_eq_true c34z
     try have c34z2 := eq_false (Nat.not_lt.2 c34z)
     have c34b1 : decide ((x3_2 ++ (⟨#[108, 101, 110, 103, 116, 104, 58, 32]⟩ : ByteArray)).size + t236.size ≤ 9223372036854775807) = true := decide_eq_true c34
     try have c34b2 : (9223372036854775807 < (x3_2 ++ (⟨#[108, 101, 110, 103, 116, 104, 58, 32]⟩ : ByteArray)).size + t236.size) = False := eq_false (Nat.not_lt.2 c34)
     by_cases c35 : ((x3_2 ++ (⟨#[108, 101, 110, 103, 116, 104, 58, 32]⟩ : ByteArray)) ++ t236).size + 2 ≤ 9223372036854775807
     rotate_left
     ·
      rw [if_neg c35] at H
      exact absurd H (by simp)
     rw [if_pos c35] at H
     have c35b0 := eq_true c35
     have c35z := c35
     simp only [ByteArray.size_append, show (⟨#[108, 101, 110, 103, 116, 104, 58, 32]⟩ : ByteArray).size = 8 from rfl] at c35z
     have c35z0 := eq_true c35z
     have c35z1 := decide_eq_true c35z
     try have c35z2 := eq_false (Nat.not_lt.2 c35z)
     have c35b1 : decide (((x3_2 ++ (⟨#[108, 101, 110, 103, 116, 104, 58, 32]⟩ : ByteArray)) ++ t236).size + 2 ≤ 9223372036854775807) = true := decide_eq_true c35
     try have c35b2 : (9223372036854775807 < ((x3_2 ++ (⟨#[108, 101, 110, 103, 116, 104, 58, 32]⟩ : ByteArray)) ++ t236).size + 2) = False := eq_false (Nat.not_lt.2 c35)
     by_cases c36 : (((x3_2 ++ (⟨#[108, 101, 110, 103, 116, 104, 58, 32]⟩ : ByteArray)) ++ t236) ++ (⟨#[10, 10]⟩ : ByteArray)).size + a0_4.size ≤ 9223372036854775807
     rotate_left
     ·
      rw [if_neg c36] at H
      exact absurd H (by simp)
     rw [if_pos c36] at H
     have c36b0 := eq_true c36
     have c36z := c36
     simp only [ByteArray.size_append, show (⟨#[10, 10]⟩ : ByteArray).size = 2 from rfl, show (⟨#[108, 101, 110, 103, 116, 104, 58, 32]⟩ : ByteArray).size = 8 from rfl] at c36z
     have c36z0 := eq_true c36z
     have c36z1 := decide_eq_true c36z
     try have c36z2 := eq_false (Nat.not_lt.2 c36z)
     have c36b1 : decide ((((x3_2 ++ (⟨#[108, 101, 110, 103, 116, 104, 58, 32]⟩ : ByteArray)) ++ t236) ++ (⟨#[10, 10]⟩ : ByteArray)).size + a0_4.size ≤ 9223372036854775807) = true := decide_eq_true c36
     try have c36b2 : (9223372036854775807 < (((x3_2 ++ (⟨#[108, 101, 110, 103, 116, 104, 58, 32]⟩ : ByteArray)) ++ t236) ++ (⟨#[10, 10]⟩ : ByteArray)).size + a0_4.size) = False := eq_false (Nat.not_lt.2 c36)
     obtain rfl := Option.some.inj H
     try go_wp2
     have n0_ := Aside0.mk (blk_drew BK230.out)
     have n1_ := Aside0.mk (below_drew1 HB.out)
     clear BK230
     clear HB
     have BK230 := n0_
     have HB := n1_
     clear n0_ n1_
     refine start_ (n := 12) (S := fun w' => w'.cell? ⟨gb230, 0, none⟩ = some (.string a0_0) ∧ w'.cell? ⟨gb230, 1, none⟩ = some (.string a0_1) ∧ w'.cell? ⟨gb230, 2, none⟩ = some (.slice A0_2 l0_2.length c0_2) ∧ w'.cell? ⟨gb230, 3, none⟩ = some (.slice A0_3 l0_3.length c0_3) ∧ w'.cell? ⟨gb230, 4, none⟩ = some (.string a0_4)) (ds := []) zf31 (by kernel_rfl) rfl rfl ⟨(blk_cell BK230.out 0).trans rfl, (blk_cell BK230.out 1).trans rfl, (blk_cell BK230.out 2).trans rfl, (blk_cell BK230.out 3).trans rfl, (blk_cell BK230.out 4).trans rfl⟩ (fun hHeld => ?_); refine with_tabW impl_WriteRequest.tab12 impl_WriteRequest.bits12 (fun HT_ HW_ => ?_)
     generalize wr.drew = w37 at BK230 HB hHeld ⊢
     refine Cap.pu (v := ?_) (a' := ?_) 0 (some 45) zf32 HT_ rfl rfl (by kernel_rfl) (fun _ _ _ h => h) (Or.inl ⟨by rfl, ?_⟩) ?_ ?_; rotate_left; intro w'; go_simp; with_reducible rfl; rotate_left; simp only [Cap.pz]; rfl
     refine Cap.pu (v := ?_) (a' := ?_) 1 (some 46) zf33 HT_ rfl rfl (by kernel_rfl) (fun _ _ _ h => h) (Or.inl ⟨by rfl, ?_⟩) ?_ ?_; rotate_left; intro w'; go_simp; with_reducible rfl; rotate_left; simp only [Cap.pz]; rfl
     refine Cap.pu (v := ?_) (a' := ?_) 2 (some 47) zf34 HT_ rfl rfl (by kernel_rfl) (fun _ _ _ h => h) (Or.inl ⟨by rfl, ?_⟩) ?_ ?_; rotate_left; intro w'; go_simp; with_reducible rfl; rotate_left; simp only [Cap.pz]; rfl
     refine Cap.pu (v := ?_) (a' := ?_) 8 (some 53) zf35 HT_ rfl rfl (by kernel_rfl) (fun _ _ _ h => h) (Or.inl ⟨by rfl, ?_⟩) ?_ ?_; rotate_left; intro w'; go_simp; with_reducible rfl; rotate_left; simp only [Cap.pz]; rfl
     refine take_ (i := 3) (N := some 48) (v := ?_) (a' := ?_) zf36 rfl rfl (take_ofW HT_.out HW_.out (by kernel_rfl)) (fun _ _ _ h => h) (Or.inl ⟨by rfl, ?_⟩) hHeld ?_ ?_; rotate_left; rintro w' ⟨s0, s1, s2, s3, s4⟩; go_simp; with_reducible rfl; rotate_left; simp only [Cap.pz]; rfl
     refine Cap.pu (v := ?_) (a' := ?_) 4 (some 49) zf37 HT_ rfl rfl (by kernel_rfl) (fun _ _ _ h => h) (Or.inl ⟨by rfl, ?_⟩) ?_ ?_; rotate_left; intro w'; go_simp; with_reducible rfl; rotate_left; simp only [Cap.pz]; rfl
     refine take_ (i := 9) (N := some 54) (v := ?_) (a' := ?_) zf38 rfl rfl (take_ofW HT_.out HW_.out (by kernel_rfl)) (fun _ _ _ h => h) (Or.inl ⟨by rfl, ?_⟩) hHeld ?_ ?_; rotate_left; rintro w' ⟨s0, s1, s2, s3, s4⟩; go_simp; with_reducible rfl; rotate_left; simp only [Cap.pz]; rfl
     refine one_ (i := 5) (N := some 50) zf39 rfl rfl (one_of HT_.out (by kernel_rfl)) (by decide) (fun K hK => ?_)
     refine goes_ Tryd.func42 (by kernel_rfl) rfl #[.int .i64 (a0_4.size : Int)] (by rfl) rfl rfl (by (try simp only [List.map_toArray, List.map_cons, List.map_nil]); first | done | rfl | (simp only [List.length_drop, List.length_take]; rfl)) ?_
     with_reducible refine (strconv_Itoa.calls (a0_4.size : Int) t236 _ A33.out (HL.out.below (by first | exact Grow.bl HB.out | exact HB.out))).mono ?_
     rintro e w38 ⟨rfl, hb⟩
     refine ⟨_, rfl, ?_⟩
     have n0_ := Aside0.mk (blk_below (g := gb230) (o := .cells #[.string a0_0, .string a0_1, .slice A0_2 l0_2.length c0_2, .slice A0_3 l0_3.length c0_3, .string a0_4] 29 (0, 0)) (by first | exact Grow.bk BK230.out | exact BK230.out) hb)
     have n1_ := Aside0.mk (below_step (by repeat (first | (with_reducible first | exact HB.out | apply below_alloc | apply pw_below_drewN | apply below_drew1 | refine below_set ?_ GE230.out) | exact HB.out)) hb)
     clear BK230
     clear HB
     have BK230 := n0_
     have HB := n1_
     clear n0_ n1_
     (try clear hb)
     (try clear hb2)
     (try clear hk)
     (try clear hi)
     refine hK.out _ _ ⟨(blk_cell BK230.out 0).trans rfl, (blk_cell BK230.out 1).trans rfl, (blk_cell BK230.out 2).trans rfl, (blk_cell BK230.out 3).trans rfl, (blk_cell BK230.out 4).trans rfl⟩ (fun hHeld => ?_)
     clear hK K
     refine norm_ (a' := ?_) ?_ ?_; rotate_left; show Act.put _ (some 50) _ = _; simp only [Cap.pz]; rfl
     refine Cap.pu (v := ?_) (a' := ?_) 6 (some 51) zf40 HT_ rfl rfl (by kernel_rfl) (fun _ _ _ h => h) (Or.inl ⟨by rfl, ?_⟩) ?_ ?_; rotate_left; intro w'; go_simp; with_reducible rfl; rotate_left; simp only [Cap.pz]; rfl
     refine Cap.pu (v := ?_) (a' := ?_) 7 (some 52) zf41 HT_ rfl rfl (by kernel_rfl) (fun _ _ _ h => h) (Or.inl ⟨by rfl, ?_⟩) ?_ ?_; rotate_left; intro w'; go_simp; with_reducible rfl; rotate_left; simp only [Cap.pz]; rfl
     refine Cap.pu (v := ?_) (a' := ?_) 10 (some 55) zf42 HT_ rfl rfl (by kernel_rfl) (fun _ _ _ h => h) (Or.inl ⟨by rfl, ?_⟩) ?_ ?_; rotate_left; intro w'; go_simp; with_reducible rfl; rotate_left; simp only [Cap.pz]; rfl
     refine Cap.pu (v := ?_) (a' := ?_) 11 (some 2) zf43 HT_ rfl rfl (by kernel_rfl) (fun _ _ _ h => h) (Or.inl ⟨by rfl, ?_⟩) ?_ ?_; rotate_left; intro w'; go_simp; with_reducible rfl; rotate_left; simp only [Cap.pz]; rfl
     refine done_ (done_of HT_.out (by kernel_rfl)) ?_
     try go_wp2
     go_ret
     exact ⟨by first | rfl | (simp [errW_none, errW_some] <;> rfl) | (simp [*, errW_none, errW_some] <;> rfl), by repeat (first | (with_reducible first | exact HB.out | apply below_alloc | apply pw_below_drewN | apply below_drew1 | refine below_set ?_ GE230.out) | exact HB.out)⟩

end Go.Proofs.YtepnjhmdcaolkaaDoor.QFnExactWriteRequest
