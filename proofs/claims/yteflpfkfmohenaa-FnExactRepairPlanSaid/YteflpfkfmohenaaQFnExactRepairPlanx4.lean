-- A text of this session, printed by a program of its own (wip/tools: xpatch.py, xprint.sh, mkq.py). No condition.
import Derived.Test.YteflpfkfmohenaaQFnExactRepairPlanx0
import Derived.Test.YteflpfkfmohenaaQFnExactRepairPlanx1
import Derived.Test.YteflpfkfmohenaaQFnExactRepairPlanx2
namespace Go.Proofs.Yteflpfkfmohenaa.QFnExactRepairPlan
open Go.RowKit Go.Proofs.YteflpfkfmohenaaW.PrintWords Go.Proofs.YteflpfkfmohenaaW.PrintLast Go.Proofs.YteflpfkfmohenaaW.PrintMore
attribute [local go_sem] max2_int min2_int max_two min_two max_three min_three max_four min_four   -- for this text's walks alone
set_option linter.unusedVariables false
set_option linter.unusedSimpArgs false

/-! ### spec_l03Clear: function 33 -/
mutual
def spec_l03Clear.l0 : Nat → Int → Int → Int → Int → Int → Int → List Int → Option (List Int)
  | 0, _, _, _, _, _, _, _ => none
  | k + 1, x1, x2, x6, x7, x139000, x139001, x139002 => if x7 < x139001 then ((spec_l03At.f x139000 x139001 x139002 x1 x7).bind fun t141 => ((spec_Mul8.f k x6 t141).bind fun t142 => (if 0 ≤ (wrap64 ((wrap64 (x1 * x139001)) + x7)) then (if (wrap64 ((wrap64 (x1 * x139001)) + x7)) < (x139002.length : Int) then (spec_l03Clear.l0 k x1 x2 x6 (wrap64 (x7 + 1)) x139000 x139001 (x139002.set ((wrap64 ((wrap64 (x1 * x139001)) + x7)) : Int).toNat t142)) else (none)) else (none)))) else (spec_l03Clear.l1 k x1 x2 0 x139000 x139001 x139002)
def spec_l03Clear.l1 : Nat → Int → Int → Int → Int → Int → List Int → Option (List Int)
  | 0, _, _, _, _, _, _ => none
  | k + 1, x1, x2, x8, x139000, x139001, x139002 => if x8 < x139000 then ((spec_l03At.f x139000 x139001 x139002 x8 x2).bind fun t144 => (if x8 = x1 then (spec_l03Clear.j2 k x1 x2 x8 t144 true x139000 x139001 x139002) else (spec_l03Clear.j2 k x1 x2 x8 t144 (t144 == 0) x139000 x139001 x139002))) else (some x139002)
def spec_l03Clear.j2 : Nat → Int → Int → Int → Int → Bool → Int → Int → List Int → Option (List Int)
  | 0, _, _, _, _, _, _, _, _ => none
  | k + 1, x1, x2, x8, x9, x53, x139000, x139001, x139002 => if x53 = true then (spec_l03Clear.l1 k x1 x2 (wrap64 (x8 + 1)) x139000 x139001 x139002) else (spec_l03Clear.l2 k x1 x2 x8 x9 0 x139000 x139001 x139002)
def spec_l03Clear.l2 : Nat → Int → Int → Int → Int → Int → Int → Int → List Int → Option (List Int)
  | 0, _, _, _, _, _, _, _, _ => none
  | k + 1, x1, x2, x8, x9, x10, x139000, x139001, x139002 => if x10 < x139001 then ((spec_l03At.f x139000 x139001 x139002 x8 x10).bind fun t145 => ((spec_l03At.f x139000 x139001 x139002 x1 x10).bind fun t146 => ((spec_Mul8.f k x9 t146).bind fun t147 => (if 0 ≤ (wrap64 ((wrap64 (x8 * x139001)) + x10)) then (if (wrap64 ((wrap64 (x8 * x139001)) + x10)) < (x139002.length : Int) then (spec_l03Clear.l2 k x1 x2 x8 x9 (wrap64 (x10 + 1)) x139000 x139001 (x139002.set ((wrap64 ((wrap64 (x8 * x139001)) + x10)) : Int).toNat (Go.bits .xor .i64 t145 t147))) else (none)) else (none))))) else (spec_l03Clear.l1 k x1 x2 (wrap64 (x8 + 1)) x139000 x139001 x139002)
end
def spec_l03Clear.f (k : Nat) (a0_0 : Int) (a0_1 : Int) (l0_2 : List Int) (a1 : Int) (a2 : Int) : Option (List Int) := (spec_l03At.f a0_0 a0_1 l0_2 a1 a2).bind fun t139 => ((spec_Inv8.f k t139).bind fun t140 => (spec_l03Clear.l0 k a1 a2 t140 0 a0_0 a0_1 l0_2))
theorem spec_l03Clear.mono_l : ∀ k, (∀ y0 y1 y2 y3 y4 y5 y6, LeO (spec_l03Clear.l0 k y0 y1 y2 y3 y4 y5 y6) (spec_l03Clear.l0 (k + 1) y0 y1 y2 y3 y4 y5 y6)) ∧ (∀ y0 y1 y2 y3 y4 y5, LeO (spec_l03Clear.l1 k y0 y1 y2 y3 y4 y5) (spec_l03Clear.l1 (k + 1) y0 y1 y2 y3 y4 y5)) ∧ (∀ y0 y1 y2 y3 y4 y5 y6 y7, LeO (spec_l03Clear.j2 k y0 y1 y2 y3 y4 y5 y6 y7) (spec_l03Clear.j2 (k + 1) y0 y1 y2 y3 y4 y5 y6 y7)) ∧ (∀ y0 y1 y2 y3 y4 y5 y6 y7, LeO (spec_l03Clear.l2 k y0 y1 y2 y3 y4 y5 y6 y7) (spec_l03Clear.l2 (k + 1) y0 y1 y2 y3 y4 y5 y6 y7))
  | 0 => ⟨fun _ _ _ _ _ _ _ r h => by simp [spec_l03Clear.l0] at h, fun _ _ _ _ _ _ r h => by simp [spec_l03Clear.l1] at h, fun _ _ _ _ _ _ _ _ r h => by simp [spec_l03Clear.j2] at h, fun _ _ _ _ _ _ _ _ r h => by simp [spec_l03Clear.l2] at h⟩
  | k + 1 => by
    obtain ⟨ih0, ih1, ih2, ih3⟩ := spec_l03Clear.mono_l k
    refine ⟨?_, ?_, ?_, ?_⟩
    · intro y0 y1 y2 y3 y4 y5 y6
      unfold spec_l03Clear.l0
      repeat' first
      | (with_reducible exact ih0 _ _ _ _ _ _ _)
      | (with_reducible exact ih1 _ _ _ _ _ _)
      | (with_reducible exact ih2 _ _ _ _ _ _ _ _)
      | (with_reducible exact ih3 _ _ _ _ _ _ _ _)
      | (with_reducible exact spec_Inv8.mono _ _)
      | (with_reducible exact spec_Mul8.mono _ _ _)
      | (with_reducible exact LeO.refl _)
      | (with_reducible exact LeO.none _)
      | (with_reducible refine LeO.ite ?_ ?_)
      | (with_reducible refine LeO.bind ?_ (fun _ => ?_))
      | exact ih0 _ _ _ _ _ _ _
      | exact ih1 _ _ _ _ _ _
      | exact ih2 _ _ _ _ _ _ _ _
      | exact ih3 _ _ _ _ _ _ _ _
      | exact spec_Inv8.mono _ _
      | exact spec_Mul8.mono _ _ _
      | exact LeO.none _
      | refine LeO.ite ?_ ?_
      | refine LeO.bind ?_ (fun _ => ?_)
    · intro y0 y1 y2 y3 y4 y5
      unfold spec_l03Clear.l1
      repeat' first
      | (with_reducible exact ih0 _ _ _ _ _ _ _)
      | (with_reducible exact ih1 _ _ _ _ _ _)
      | (with_reducible exact ih2 _ _ _ _ _ _ _ _)
      | (with_reducible exact ih3 _ _ _ _ _ _ _ _)
      | (with_reducible exact spec_Inv8.mono _ _)
      | (with_reducible exact spec_Mul8.mono _ _ _)
      | (with_reducible exact LeO.refl _)
      | (with_reducible exact LeO.none _)
      | (with_reducible refine LeO.ite ?_ ?_)
      | (with_reducible refine LeO.bind ?_ (fun _ => ?_))
      | exact ih0 _ _ _ _ _ _ _
      | exact ih1 _ _ _ _ _ _
      | exact ih2 _ _ _ _ _ _ _ _
      | exact ih3 _ _ _ _ _ _ _ _
      | exact spec_Inv8.mono _ _
      | exact spec_Mul8.mono _ _ _
      | exact LeO.none _
      | refine LeO.ite ?_ ?_
      | refine LeO.bind ?_ (fun _ => ?_)
    · intro y0 y1 y2 y3 y4 y5 y6 y7
      unfold spec_l03Clear.j2
      repeat' first
      | (with_reducible exact ih0 _ _ _ _ _ _ _)
      | (with_reducible exact ih1 _ _ _ _ _ _)
      | (with_reducible exact ih2 _ _ _ _ _ _ _ _)
      | (with_reducible exact ih3 _ _ _ _ _ _ _ _)
      | (with_reducible exact spec_Inv8.mono _ _)
      | (with_reducible exact spec_Mul8.mono _ _ _)
      | (with_reducible exact LeO.refl _)
      | (with_reducible exact LeO.none _)
      | (with_reducible refine LeO.ite ?_ ?_)
      | (with_reducible refine LeO.bind ?_ (fun _ => ?_))
      | exact ih0 _ _ _ _ _ _ _
      | exact ih1 _ _ _ _ _ _
      | exact ih2 _ _ _ _ _ _ _ _
      | exact ih3 _ _ _ _ _ _ _ _
      | exact spec_Inv8.mono _ _
      | exact spec_Mul8.mono _ _ _
      | exact LeO.none _
      | refine LeO.ite ?_ ?_
      | refine LeO.bind ?_ (fun _ => ?_)
    · intro y0 y1 y2 y3 y4 y5 y6 y7
      unfold spec_l03Clear.l2
      repeat' first
      | (with_reducible exact ih0 _ _ _ _ _ _ _)
      | (with_reducible exact ih1 _ _ _ _ _ _)
      | (with_reducible exact ih2 _ _ _ _ _ _ _ _)
      | (with_reducible exact ih3 _ _ _ _ _ _ _ _)
      | (with_reducible exact spec_Inv8.mono _ _)
      | (with_reducible exact spec_Mul8.mono _ _ _)
      | (with_reducible exact LeO.refl _)
      | (with_reducible exact LeO.none _)
      | (with_reducible refine LeO.ite ?_ ?_)
      | (with_reducible refine LeO.bind ?_ (fun _ => ?_))
      | exact ih0 _ _ _ _ _ _ _
      | exact ih1 _ _ _ _ _ _
      | exact ih2 _ _ _ _ _ _ _ _
      | exact ih3 _ _ _ _ _ _ _ _
      | exact spec_Inv8.mono _ _
      | exact spec_Mul8.mono _ _ _
      | exact LeO.none _
      | refine LeO.ite ?_ ?_
      | refine LeO.bind ?_ (fun _ => ?_)
theorem spec_l03Clear.mono : ∀ a0 a1 a2 a3 a4 k, LeO (spec_l03Clear.f k a0 a1 a2 a3 a4) (spec_l03Clear.f (k + 1) a0 a1 a2 a3 a4) := by
  intro a0 a1 a2 a3 a4 k
  obtain ⟨ih0, ih1, ih2, ih3⟩ := spec_l03Clear.mono_l k
  unfold spec_l03Clear.f
  repeat' first
      | (with_reducible exact ih0 _ _ _ _ _ _ _)
      | (with_reducible exact ih1 _ _ _ _ _ _)
      | (with_reducible exact ih2 _ _ _ _ _ _ _ _)
      | (with_reducible exact ih3 _ _ _ _ _ _ _ _)
      | (with_reducible exact spec_Inv8.mono _ _)
      | (with_reducible exact spec_Mul8.mono _ _ _)
      | (with_reducible exact LeO.refl _)
      | (with_reducible exact LeO.none _)
      | (with_reducible refine LeO.ite ?_ ?_)
      | (with_reducible refine LeO.bind ?_ (fun _ => ?_))
      | exact ih0 _ _ _ _ _ _ _
      | exact ih1 _ _ _ _ _ _
      | exact ih2 _ _ _ _ _ _ _ _
      | exact ih3 _ _ _ _ _ _ _ _
      | exact spec_Inv8.mono _ _
      | exact spec_Mul8.mono _ _ _
      | exact LeO.none _
      | refine LeO.ite ?_ ?_
      | refine LeO.bind ?_ (fun _ => ?_)
def spec_l03Clear.T5 : Bool × List (List Nat × List Nat) := (true, [([], []), ([0], [0]), ([], []), ([], []), ([3], [3]), ([2, 4], [2, 4]), ([], []), ([5, 6], [5, 6]), ([], []), ([], []), ([], []), ([], []), ([9, 10, 11], [9, 10, 11]), ([8, 12, 12], [8, 12]), ([1, 7, 0, 1, 2, 3, 4, 5, 6, 7, 8, 9, 10, 11, 12, 13], [1, 7]), ([14, 13, 13, 0, 1, 2, 3, 4, 5, 6, 7, 8, 9, 10, 11, 12, 13], [13, 14])])
def spec_l03Clear.B5 : List Nat := [0, 1, 0, 0, 8, 28, 0, 124, 0, 0, 0, 0, 3584, 7936, 16383, 32767]
theorem spec_l03Clear.tab5 : rtab .any (opsOf Try.f33 5) = spec_l03Clear.T5 := by kernel_rfl
theorem spec_l03Clear.bits5 : waitsOk spec_l03Clear.T5.2 spec_l03Clear.B5 = true := by kernel_rfl
def spec_l03Clear.T14 : Bool × List (List Nat × List Nat) := (true, [([], []), ([0], [0]), ([], []), ([], []), ([3], [3]), ([2, 4], [2, 4]), ([], []), ([5, 6], [5, 6]), ([], []), ([], []), ([], []), ([8, 9, 10], [8, 9, 10]), ([], []), ([], []), ([], []), ([], []), ([13, 14, 15, 11], [13, 14, 15]), ([12, 16, 16], [12, 16]), ([11, 17], [11, 17]), ([1, 7, 0, 1, 2, 3, 4, 5, 6, 7, 8, 9, 10, 11, 12, 13, 14, 15, 16, 17, 18], [1, 7]), ([19, 18, 17, 0, 1, 2, 3, 4, 5, 6, 7, 8, 9, 10, 11, 12, 13, 14, 15, 16, 17, 18], [18, 19])])
def spec_l03Clear.B14 : List Nat := [0, 1, 0, 0, 8, 28, 0, 124, 0, 0, 0, 1792, 0, 0, 0, 0, 61184, 130816, 261888, 524287, 1048575]
theorem spec_l03Clear.tab14 : rtab .any (opsOf Try.f33 14) = spec_l03Clear.T14 := by kernel_rfl
theorem spec_l03Clear.bits14 : waitsOk spec_l03Clear.T14.2 spec_l03Clear.B14 = true := by kernel_rfl
set_option maxHeartbeats 8000000 in
set_option maxRecDepth 100000 in
theorem spec_l03Clear.calls (k : Nat) (a0_0 : Int) (a0_1 : Int) (P0_2_ : Nat → Prop) (u9000_ : Value) (l0_2 : List Int) (a1 : Int) (a2 : Int) (r : List Int) (w0 w : World) (hB : Below w0.heap.size w0 w) (ho0_2 : Kd.R (Kd.int .i64) 2 w w0.heap.size P0_2_ u9000_ l0_2) (h : spec_l03Clear.f k a0_0 a0_1 l0_2 a1 a2 = some r) :
  Calls Try.prog 33 #[.agg #[.int .i64 a0_0, .int .i64 a0_1, u9000_], .int .i64 a1, .int .i64 a2] w fun e w' => e = .returned (.tuple #[]) ∧ Kd.R (Kd.int .i64) 2 w' w0.heap.size (fun k_ => (P0_2_ k_ ∨ w.heap.size ≤ k_)) u9000_ r ∧ Below w0.heap.size w0 w' ∧ Kept w w' (fun k_ => P0_2_ k_) := by
 have hu48 := Try.underlying48
 have HO0_2 := Aside0.mk (show Kd.R (Kd.int .i64) 2 w w0.heap.size (fun k_ => (P0_2_ k_ ∨ w.heap.size ≤ k_)) u9000_ l0_2 from Kd.R_mono ho0_2 (fun k_ hk => (.inl hk)))
 have HK := Aside0.mk (Kept.refl w (fun k_ => P0_2_ k_))
 have HW0 := Aside0.mk hB.size
 have HB := Aside0.mk hB
 clear hB
 have H : ((spec_l03At.f a0_0 a0_1 l0_2 a1 a2).bind fun t139 => ((spec_Inv8.f k t139).bind fun t140 => (spec_l03Clear.l0 k a1 a2 t140 0 a0_0 a0_1 l0_2))) = some r := h
 clear h
 replace H := Option.bind_eq_some_iff.mp H
 obtain ⟨t139, A40, H⟩ := H
 replace H : ((spec_Inv8.f k t139).bind fun t140 => (spec_l03Clear.l0 k a1 a2 t140 0 a0_0 a0_1 l0_2)) = some r := H
 have A4 := Aside0.mk A40
 clear A40
 replace H := Option.bind_eq_some_iff.mp H
 obtain ⟨t140, A50, H⟩ := H
 replace H : (spec_l03Clear.l0 k a1 a2 t140 0 a0_0 a0_1 l0_2) = some r := H
 have A5 := Aside0.mk A50
 clear A50
 have H' := Aside0.mk H
 clear H
 obtain ⟨Ao6, co6, eo6⟩ := Kd.R_slice HO0_2.out
 subst eo6
 go_enter Try.func33, Try.ntmps33
 go_wp2_with (first | ((with_reducible refine gate_dst (N := 3) rfl ?_); refine box_event ?hg (N := 3) ?hd (cs := #[.int .i64 a0_0, .int .i64 a0_1, .slice Ao6 l0_2.length co6]) (t := 48) ?hr ?_; (case hd => rfl); (case hg => rfl); (case hr => first | (go_simp; done) | (go_simp; rfl)); intro gb138 hg w7 hbox hb; have n0_ := Aside0.mk (Kd.R_below (by first | exact Grow.rg HO0_2.out | exact HO0_2.out) hb); have n1_ := Aside0.mk (Kept.below (S := (fun k_ => P0_2_ k_)) (by repeat (first | (with_reducible first | exact HK.out | apply Kept.alloc | apply Kept.drewN | apply Kept.drew) | exact HK.out)) hb); have n2_ := Aside0.mk (below_step (by first | exact Grow.bl HB.out | exact HB.out) hb); have n3_ := Aside0.mk (hbox); have n4_ := Aside0.mk ((by rw [hg]; exact (by first | exact HK.out.1 | exact (show Kept w _ (fun k_ => P0_2_ k_) from by repeat (first | (with_reducible first | exact HK.out | apply Kept.alloc | apply Kept.drewN | apply Kept.drew) | exact HK.out)).1) : w.heap.size ≤ gb138)); have n5_ := Aside0.mk ((by rw [hg]; exact (below_size (by first | exact Grow.bl HB.out | exact HB.out)) : w0.heap.size ≤ gb138)); clear HO0_2; clear HK; clear HB; have HO0_2 := n0_; have HK := n1_; have HB := n2_; have BK138 := n3_; have GW138 := n4_; have GE138 := n5_; clear n0_ n1_ n2_ n3_ n4_ n5_; clear hb hbox hg; have hcz8_0 : w7.cell? ⟨gb138, 0, none⟩ = some (.int .i64 a0_0) := (blk_cell BK138.out 0).trans rfl; have hcz8_1 : w7.cell? ⟨gb138, 1, none⟩ = some (.int .i64 a0_1) := (blk_cell BK138.out 1).trans rfl; have hcz8_2 : w7.cell? ⟨gb138, 2, none⟩ = some (.slice Ao6 l0_2.length co6) := (blk_cell BK138.out 2).trans rfl; have hfz8_0 := blk_frozen BK138.out 0; have hfz8_1 := blk_frozen BK138.out 1; have hfz8_2 := blk_frozen BK138.out 2) | ((with_reducible refine gate_callee (f := 31) rfl ?_); refine goesL_ (some 14) rfl rfl Try.func31 (by kernel_rfl) rfl #[.agg #[.int .i64 a0_0, .int .i64 a0_1, .slice Ao6 l0_2.length co6], .int .i64 a1, .int .i64 a2] rfl (by (try simp only [List.map_toArray, List.map_cons, List.map_nil]); first | done | rfl | (simp only [List.length_drop, List.length_take]; rfl)) ?_; (with_reducible refine (spec_l03At.calls a0_0 a0_1 _ _ l0_2 a1 a2 t139 _ ?side1 ?side2 A4.out).mono ?_); (case side1 => repeat (first | exact (Kd.R_reads' HO0_2.out).2.2 | (with_reducible refine Kd.C_alloc ?_ _) | (with_reducible refine Kd.C_drewN ?_ _) | (with_reducible refine Kd.C_drew ?_))); (case side2 => exact (Kd.R_reads' HO0_2.out).2.1); rintro e w9 ⟨rfl, hb⟩; refine ⟨_, rfl, ?_⟩; have n0_ := Aside0.mk (Kd.R_below (by first | exact Grow.rg HO0_2.out | exact HO0_2.out) hb); have n1_ := Aside0.mk (blk_below (g := gb138) (o := .cells #[.int .i64 a0_0, .int .i64 a0_1, .slice Ao6 l0_2.length co6] 48 (0, 0)) (by first | exact Grow.bk BK138.out | exact BK138.out) hb); have n2_ := Aside0.mk (Kept.below (S := (fun k_ => P0_2_ k_)) (by repeat (first | (with_reducible first | exact HK.out | apply Kept.alloc | apply Kept.drewN | apply Kept.drew | refine Kept.setCell ?_ (.inr GW138.out) _) | exact HK.out)) hb); have n3_ := Aside0.mk (below_step (by repeat (first | (with_reducible first | exact HB.out | apply below_alloc | apply pw_below_drewN | apply below_drew1 | refine below_set ?_ GE138.out) | exact HB.out)) hb); clear HO0_2; clear BK138; clear HK; clear HB; have HO0_2 := n0_; have BK138 := n1_; have HK := n2_; have HB := n3_; clear n0_ n1_ n2_ n3_; (try clear hb); (try clear hb2); (try clear hk); (try clear hi)) | ((with_reducible refine gate_callee (f := 30) rfl ?_); refine goesL_ (some 15) rfl rfl Try.func30 (by kernel_rfl) rfl #[.int .i64 t139] rfl (by (try simp only [List.map_toArray, List.map_cons, List.map_nil]); first | done | rfl | (simp only [List.length_drop, List.length_take]; rfl)) ?_; (with_reducible refine (spec_Inv8.calls k t139 t140 _ A5.out).mono ?_); rintro e w' ⟨rfl, ⟨nd, rfl⟩⟩; refine ⟨_, rfl, ?_⟩))
 go_loopg [7] k (fun kq v7 w' => ∃ (x7_1 : Int) (x139002_1 : List Int), v7 = .int .i64 x7_1 ∧ Aside0 (spec_l03Clear.l0 kq a1 a2 t140 x7_1 a0_0 a0_1 x139002_1 = some r) ∧ Aside0 (kq ≤ k) ∧ Aside0 (Kd.R (Kd.int .i64) 2 w' w0.heap.size (fun k_ => (P0_2_ k_ ∨ w.heap.size ≤ k_)) (.slice Ao6 l0_2.length co6) x139002_1) ∧ Aside0 (w'.heap[gb138]? = some (.cells #[.int .i64 a0_0, .int .i64 a0_1, (.slice Ao6 l0_2.length co6)] 48 (0, 0))) ∧ Aside0 (Kept w w' (fun k_ => P0_2_ k_)) ∧ Aside0 (Below w0.heap.size w0 w'))
 case atStart => exact ⟨(0), (l0_2), (by first | rfl | (simp; done) | (simp [*]; done)), H', ⟨Nat.le_refl _⟩, ⟨by first | exact Grow.rg HO0_2.out | exact HO0_2.out⟩, ⟨by first | exact Grow.bk BK138.out | exact BK138.out⟩, ⟨by repeat (first | (with_reducible first | exact HK.out | apply Kept.alloc | apply Kept.drewN | apply Kept.drew | refine Kept.setCell ?_ (.inr GW138.out) _) | exact HK.out)⟩, ⟨by repeat (first | (with_reducible first | exact HB.out | apply below_alloc | apply pw_below_drewN | apply below_drew1 | refine below_set ?_ GE138.out) | exact HB.out)⟩⟩
 case round =>
  clear H'
  try clear p2
  try clear c3
  try clear hcz8_0
  try clear hcz8_1
  try clear hcz8_2
  try clear hfz8_0
  try clear hfz8_1
  try clear hfz8_2
  obtain ⟨x7_1, x139002_1, rfl, HA, HK1, HO_139002, BK138, HK, HB⟩ := hrel
  have hl139002_1 := (Kd.R_reads' HO_139002.out).1
  rw [hl139002_1] at HO_139002
  (try simp only [hl139002_1])
  (try simp only [hl139002_1] at BK138)
  cases gk with
  | zero => exact absurd HA.out (by simp [spec_l03Clear.l0])
  | succ k1 =>
   have H := HA.out
   clear HA
   simp only [spec_l03Clear.l0] at H
   by_cases c10 : x7_1 < a0_1
   ·
    rw [if_pos c10] at H
    have c10b0 : decide (x7_1 < a0_1) = true := decide_eq_true c10
    clear c10
    replace H := Option.bind_eq_some_iff.mp H
    obtain ⟨t141, A110, H⟩ := H
    replace H : ((spec_Mul8.f k1 t140 t141).bind fun t142 => (if 0 ≤ (wrap64 ((wrap64 (a1 * a0_1)) + x7_1)) then (if (wrap64 ((wrap64 (a1 * a0_1)) + x7_1)) < (x139002_1.length : Int) then (spec_l03Clear.l0 k1 a1 a2 t140 (wrap64 (x7_1 + 1)) a0_0 a0_1 (x139002_1.set ((wrap64 ((wrap64 (a1 * a0_1)) + x7_1)) : Int).toNat t142)) else (none)) else (none))) = some r := H
    have A11 := Aside0.mk A110
    clear A110
    replace H := Option.bind_eq_some_iff.mp H
    obtain ⟨t142, A120, H⟩ := H
    replace H : (if 0 ≤ (wrap64 ((wrap64 (a1 * a0_1)) + x7_1)) then (if (wrap64 ((wrap64 (a1 * a0_1)) + x7_1)) < (x139002_1.length : Int) then (spec_l03Clear.l0 k1 a1 a2 t140 (wrap64 (x7_1 + 1)) a0_0 a0_1 (x139002_1.set ((wrap64 ((wrap64 (a1 * a0_1)) + x7_1)) : Int).toNat t142)) else (none)) else (none)) = some r := H
    have A12 := Aside0.mk A120
    clear A120
    obtain ⟨ji13, hji13⟩ : ∃ j_ : Int, (wrap64 ((wrap64 (a1 * a0_1)) + x7_1)) = j_ := ⟨_, rfl⟩
    replace H : (if 0 ≤ (ji13) then (if (ji13) < (x139002_1.length : Int) then (spec_l03Clear.l0 k1 a1 a2 t140 (wrap64 (x7_1 + 1)) a0_0 a0_1 (x139002_1.set ((ji13) : Int).toNat t142)) else (none)) else (none)) = some r := by first | (rw [hji13] at H; exact H) | (simp only [hji13] at H ⊢; exact H)
    (try rw [hji13] at A11)
    (try rw [hji13] at A12)
    have hji13w : (IntKind.i64.wrap ((wrap64 (a1 * a0_1)) + x7_1)) = ji13 := (i64_w _).trans hji13
    by_cases c14 : 0 ≤ (ji13)
    rotate_left
    ·
     rw [if_neg c14] at H
     exact absurd H (by simp)
    rw [if_pos c14] at H
    have c14b0 : decide (0 ≤ (ji13)) = true := decide_eq_true c14
    clear c14
    by_cases c15 : (ji13) < (x139002_1.length : Int)
    rotate_left
    ·
     rw [if_neg c15] at H
     exact absurd H (by simp)
    rw [if_pos c15] at H
    have c15b0 : decide ((ji13) < (x139002_1.length : Int)) = true := decide_eq_true c15
    clear c15
    obtain ⟨y143, hy143⟩ : ∃ y_ : List Int, y_ = (x139002_1.set ((ji13) : Int).toNat t142) := ⟨_, rfl⟩
    replace H : (spec_l03Clear.l0 k1 a1 a2 t140 (wrap64 (x7_1 + 1)) a0_0 a0_1 y143) = some r := by first | (rw [hy143]; with_reducible exact H) | (have H2_ := (Option.bind_some _ _).symm.trans H; rw [hy143]; with_reducible exact H2_) | (have H2_ := (Option.bind_some _ _).symm.trans H; with_reducible exact H2_) | with_reducible exact H | (rw [hy143]; exact H) | exact H
    have Ny143 := Aside0.mk hy143
    clear hy143
    have H' := Aside0.mk H
    clear H
    have hcz17_0 : wr.cell? ⟨gb138, 0, none⟩ = some (.int .i64 a0_0) := (blk_cell BK138.out 0).trans rfl
    have hcz17_1 : wr.cell? ⟨gb138, 1, none⟩ = some (.int .i64 a0_1) := (blk_cell BK138.out 1).trans rfl
    have hcz17_2 : wr.cell? ⟨gb138, 2, none⟩ = some (.slice Ao6 x139002_1.length co6) := (blk_cell BK138.out 2).trans rfl
    have hfz17_0 := blk_frozen BK138.out 0
    have hfz17_1 := blk_frozen BK138.out 1
    have hfz17_2 := blk_frozen BK138.out 2
    try go_wp2
    have n0_ := Aside0.mk (Kd.R_drew HO_139002.out)
    have n1_ := Aside0.mk (blk_drew BK138.out)
    have n2_ := Aside0.mk (Kept.drew HK.out)
    have n3_ := Aside0.mk (below_drew1 HB.out)
    clear HO_139002
    clear BK138
    clear HK
    clear HB
    have HO_139002 := n0_
    have BK138 := n1_
    have HK := n2_
    have HB := n3_
    clear n0_ n1_ n2_ n3_
    refine start_ (n := 16) (S := fun w' => w'.cell? ⟨gb138, 0, none⟩ = some (.int .i64 a0_0) ∧ w'.cell? ⟨gb138, 1, none⟩ = some (.int .i64 a0_1) ∧ w'.cell? ⟨gb138, 2, none⟩ = some (.slice Ao6 x139002_1.length co6)) (ds := [15]) zf44 (by kernel_rfl) rfl rfl ⟨(blk_cell BK138.out 0).trans rfl, (blk_cell BK138.out 1).trans rfl, (blk_cell BK138.out 2).trans rfl⟩ (fun hHeld => ?_); refine with_tabW spec_l03Clear.tab5 spec_l03Clear.bits5 (fun HT_ HW_ => ?_)
    generalize wr.drew = w18 at HO_139002 BK138 HK HB hHeld ⊢
    refine Cap.pu (v := ?_) (a' := ?_) 0 (some 22) zf45 HT_ rfl rfl (by kernel_rfl) (fun _ _ _ h => h) (Or.inl ⟨by rfl, ?_⟩) ?_ ?_; rotate_left; intro w'; go_simp; with_reducible rfl; rotate_left; simp only [Cap.pz]; rfl
    refine Cap.pu (v := ?_) (a' := ?_) 2 (some 24) zf46 HT_ rfl rfl (by kernel_rfl) (fun _ _ _ h => h) (Or.inl ⟨by rfl, ?_⟩) ?_ ?_; rotate_left; intro w'; go_simp; with_reducible rfl; rotate_left; simp only [Cap.pz]; rfl
    refine Cap.pu (v := ?_) (a' := ?_) 3 (some 25) zf47 HT_ rfl rfl (by kernel_rfl) (fun _ _ _ h => h) (Or.inl ⟨by rfl, ?_⟩) ?_ ?_; rotate_left; intro w'; go_simp; with_reducible rfl; rotate_left; simp only [Cap.pz]; rfl
    refine Cap.pu (v := ?_) (a' := ?_) 6 (some 28) zf48 HT_ rfl rfl (by kernel_rfl) (fun _ _ _ h => h) (Or.inl ⟨by rfl, ?_⟩) ?_ ?_; rotate_left; intro w'; go_simp; with_reducible rfl; rotate_left; simp only [Cap.pz]; rfl
    refine Cap.pu (v := ?_) (a' := ?_) 8 (some 30) zf49 HT_ rfl rfl (by kernel_rfl) (fun _ _ _ h => h) (Or.inl ⟨by rfl, ?_⟩) ?_ ?_; rotate_left; intro w'; go_simp; with_reducible rfl; rotate_left; simp only [Cap.pz]; rfl
    refine Cap.pu (v := ?_) (a' := ?_) 10 (some 32) zf50 HT_ rfl rfl (by kernel_rfl) (fun _ _ _ h => h) (Or.inl ⟨by rfl, ?_⟩) ?_ ?_; rotate_left; intro w'; go_simp; with_reducible rfl; rotate_left; simp only [Cap.pz]; rfl
    refine Cap.pu (v := ?_) (a' := ?_) 11 (some 33) zf51 HT_ rfl rfl (by kernel_rfl) (fun _ _ _ h => h) (Or.inl ⟨by rfl, ?_⟩) ?_ ?_; rotate_left; intro w'; go_simp; with_reducible rfl; rotate_left; simp only [Cap.pz]; rfl
    refine take_ (i := 1) (N := some 23) (v := ?_) (a' := ?_) zf52 rfl rfl (take_ofW HT_.out HW_.out (by kernel_rfl)) (fun _ _ _ h => h) (Or.inl ⟨by rfl, ?_⟩) hHeld ?_ ?_; rotate_left; rintro w' ⟨s0, s1, s2⟩; go_simp; with_reducible rfl; rotate_left; simp only [Cap.pz]; rfl
    refine take_ (i := 4) (N := some 26) (v := ?_) (a' := ?_) zf53 rfl rfl (take_ofW HT_.out HW_.out (by kernel_rfl)) (fun _ _ _ h => h) (Or.inl ⟨by rfl, ?_⟩) hHeld ?_ ?_; rotate_left; rintro w' ⟨s0, s1, s2⟩; go_simp; with_reducible rfl; rotate_left; simp only [Cap.pz]; rfl
    refine Cap.pu (v := ?_) (a' := ?_) 5 (some 27) zf54 HT_ rfl rfl (by kernel_rfl) (fun _ _ _ h => h) (Or.inl ⟨by rfl, ?_⟩) ?_ ?_; rotate_left; intro w'; go_simp; with_reducible rfl; rotate_left; simp only [Cap.pz]; rfl
    refine Cap.pu (v := ?_) (a' := ?_) 7 (some 29) zf55 HT_ rfl rfl (by kernel_rfl) (fun _ _ _ h => h) (Or.inl ⟨by rfl, ?_⟩) ?_ ?_; rotate_left; intro w'; go_simp; with_reducible rfl; rotate_left; simp only [Cap.pz]; rfl
    refine take_ (i := 9) (N := some 31) (v := ?_) (a' := ?_) zf56 rfl rfl (take_ofW HT_.out HW_.out (by kernel_rfl)) (fun _ _ _ h => h) (Or.inl ⟨by rfl, ?_⟩) hHeld ?_ ?_; rotate_left; rintro w' ⟨s0, s1, s2⟩; go_simp; with_reducible rfl; rotate_left; simp only [Cap.pz]; rfl
    refine one_ (i := 12) (N := some 34) zf57 rfl rfl (one_of HT_.out (by kernel_rfl)) (by decide) (fun K hK => ?_)
    refine goes_ Try.func31 (by kernel_rfl) rfl #[.agg #[.int .i64 a0_0, .int .i64 a0_1, .slice Ao6 x139002_1.length co6], .int .i64 a1, .int .i64 x7_1] (by rfl) rfl rfl (by (try simp only [List.map_toArray, List.map_cons, List.map_nil]); first | done | rfl | (simp only [List.length_drop, List.length_take]; rfl)) ?_
    with_reducible refine (spec_l03At.calls a0_0 a0_1 _ _ x139002_1 a1 x7_1 t141 _ ?side1 ?side2 A11.out).mono ?_
    (case side1 => repeat (first | exact (Kd.R_reads' HO_139002.out).2.2 | (with_reducible refine Kd.C_alloc ?_ _) | (with_reducible refine Kd.C_drewN ?_ _) | (with_reducible refine Kd.C_drew ?_)))
    (case side2 => exact (Kd.R_reads' HO_139002.out).2.1)
    rintro e w19 ⟨rfl, hb⟩
    refine ⟨_, rfl, ?_⟩
    have n0_ := Aside0.mk (Kd.R_below (by first | exact Grow.rg HO_139002.out | exact HO_139002.out) hb)
    have n1_ := Aside0.mk (blk_below (g := gb138) (o := .cells #[.int .i64 a0_0, .int .i64 a0_1, .slice Ao6 x139002_1.length co6] 48 (0, 0)) (by first | exact Grow.bk BK138.out | exact BK138.out) hb)
    have n2_ := Aside0.mk (Kept.below (S := (fun k_ => P0_2_ k_)) (by repeat (first | (with_reducible first | exact HK.out | apply Kept.alloc | apply Kept.drewN | apply Kept.drew | refine Kept.setCell ?_ (.inr GW138.out) _) | exact HK.out)) hb)
    have n3_ := Aside0.mk (below_step (by repeat (first | (with_reducible first | exact HB.out | apply below_alloc | apply pw_below_drewN | apply below_drew1 | refine below_set ?_ GE138.out) | exact HB.out)) hb)
    clear HO_139002
    clear BK138
    clear HK
    clear HB
    have HO_139002 := n0_
    have BK138 := n1_
    have HK := n2_
    have HB := n3_
    clear n0_ n1_ n2_ n3_
    (try clear hb)
    (try clear hb2)
    (try clear hk)
    (try clear hi)
    refine hK.out _ _ ⟨(blk_cell BK138.out 0).trans rfl, (blk_cell BK138.out 1).trans rfl, (blk_cell BK138.out 2).trans rfl⟩ (fun hHeld => ?_)
    clear hK K
    refine norm_ (a' := ?_) ?_ ?_; rotate_left; show Act.put _ (some 34) _ = _; simp only [Cap.pz]; rfl
    refine one_ (i := 13) (N := some 35) zf58 rfl rfl (one_of HT_.out (by kernel_rfl)) (by decide) (fun K hK => ?_)
    refine goes_ Try.func40 (by kernel_rfl) rfl #[.int .i64 t140, .int .i64 t141] (by rfl) rfl rfl (by (try simp only [List.map_toArray, List.map_cons, List.map_nil]); first | done | rfl | (simp only [List.length_drop, List.length_take]; rfl)) ?_
    with_reducible refine (spec_Mul8.calls k1 t140 t141 t142 _ A12.out).mono ?_
    rintro e w' ⟨rfl, ⟨nd, rfl⟩⟩
    refine ⟨_, rfl, ?_⟩
    have p16 : 0 ≤ ((ji13) : Int) := of_decide_eq_true (by first | (with_reducible assumption) | assumption)
    have q16 : ((ji13) : Int) < ((x139002_1.length : Int) : Int) := of_decide_eq_true (by first | (with_reducible assumption) | assumption)
    obtain ⟨go16, co16, eo16, gb16, gl16, cl16, HG16⟩ := Kd.R_form HO_139002.out (by omega)
    (first | cases eo16 | (injection eo16 with ea_ en_ ec_; (first | subst ea_ | (injection ea_ with ea_; subst ea_)); subst ec_; clear en_))
    have GB16 := Aside0.mk gb16
    have GG16 := Aside0.mk HG16
    clear gb16 gl16 HG16
    have HMgo16 := Aside0.mk (show (P0_2_ go16 ∨ w.heap.size ≤ go16) from (HO_139002.out.1 _ rfl))
    obtain ⟨hx16_0, hf16_0⟩ := Kd.R_celln 0 HO_139002.out ((ji13) : Int) p16 q16
    replace p16 := eq_true p16
    replace q16 := eq_true q16
    have HP20 := Kd.R_putn HO_139002.out ((ji13) : Int) t142
    rw [← Ny143.out] at HP20
    have HQ20 := Aside0.mk HP20
    clear HP20
    refine hK.out _ _ ⟨(blk_cell BK138.out 0).trans rfl, (blk_cell BK138.out 1).trans rfl, (blk_cell BK138.out 2).trans rfl⟩ (fun hHeld => ?_)
    clear hK K
    refine norm_ (a' := ?_) ?_ ?_; rotate_left; show Act.put _ (some 35) _ = _; simp only [Cap.pz]; rfl
    refine Cap.pu (v := ?_) (a' := ?_) 14 (some 36) zf59 HT_ rfl rfl (by kernel_rfl) (fun _ _ _ h => h) (Or.inl ⟨by rfl, ?_⟩) ?_ ?_; rotate_left; intro w'; go_simp; with_reducible rfl; rotate_left; simp only [Cap.pz]; rfl
    refine last_ (i := 15) (N := none) zf60 rfl rfl (one_of HT_.out (by kernel_rfl)) (by decide) (fun K hK => ?_)
    refine skip_ (w1 := ?_) (by rfl) rfl ?_ ?_
    rotate_left
    ·
     go_simp
     rfl
    refine hK.out _ _ ?_
    clear hK K
    refine done_ (done_of HT_.out (by kernel_rfl)) ?_
    try go_wp2
    (try simp only [← hl139002_1])
    go_roundg k1
    case measure => have := HK1.out; omega
    case rel => exact ⟨(wrap64 (x7_1 + 1)), (y143), (by first | rfl | (simp; done) | (simp [*]; done)), H', ⟨by have := HK1.out; omega⟩, ⟨by (try simp only [hl139002_1]); (with_reducible repeat (first | apply Kd.R_alloc | apply Kd.R_drewN | apply Kd.R_drew)); exact HQ20.out⟩, ⟨by (try simp only [hl139002_1]); (with_reducible repeat (first | refine blk_drewN ?_ _ | refine blk_drew ?_ | refine blk_alloc ?_ _)); refine blk_far ?_ (by have h_ := Kd.R_ne HO_139002.out BK138.out (by decide); intro e_; exact h_ (by rw [e_]; rfl)) _; (with_reducible repeat (first | refine blk_drewN ?_ _ | refine blk_drew ?_ | refine blk_alloc ?_ _)); exact BK138.out⟩, ⟨by repeat (first | (with_reducible first | exact HK.out | apply Kept.alloc | apply Kept.drewN | apply Kept.drew | refine Kept.setCell ?_ HMgo16.out _ | refine Kept.setCell ?_ (.inr GW138.out) _) | exact HK.out)⟩, ⟨by repeat (first | (with_reducible first | exact HB.out | apply below_alloc | apply pw_below_drewN | apply below_drew1 | refine below_set ?_ GB16.out | refine below_set ?_ GE138.out) | exact HB.out)⟩⟩
   rw [if_neg c10] at H
   have c10b0 : decide (x7_1 < a0_1) = false := decide_eq_false c10
   clear c10
   have H' := Aside0.mk H
   clear H
   have hcz21_0 : wr.cell? ⟨gb138, 0, none⟩ = some (.int .i64 a0_0) := (blk_cell BK138.out 0).trans rfl
   have hcz21_1 : wr.cell? ⟨gb138, 1, none⟩ = some (.int .i64 a0_1) := (blk_cell BK138.out 1).trans rfl
   have hcz21_2 : wr.cell? ⟨gb138, 2, none⟩ = some (.slice Ao6 x139002_1.length co6) := (blk_cell BK138.out 2).trans rfl
   have hfz21_0 := blk_frozen BK138.out 0
   have hfz21_1 := blk_frozen BK138.out 1
   have hfz21_2 := blk_frozen BK138.out 2
   go_wp2
   go_loopg [8] k1 (fun kq v8 w' => ∃ (x8_2 : Int) (x139002_2 : List Int), v8 = .int .i64 x8_2 ∧ Aside0 (spec_l03Clear.l1 kq a1 a2 x8_2 a0_0 a0_1 x139002_2 = some r) ∧ Aside0 (kq ≤ k1) ∧ Aside0 (Kd.R (Kd.int .i64) 2 w' w0.heap.size (fun k_ => (P0_2_ k_ ∨ w.heap.size ≤ k_)) (.slice Ao6 x139002_1.length co6) x139002_2) ∧ Aside0 (w'.heap[gb138]? = some (.cells #[.int .i64 a0_0, .int .i64 a0_1, (.slice Ao6 x139002_1.length co6)] 48 (0, 0))) ∧ Aside0 (Kept w w' (fun k_ => P0_2_ k_)) ∧ Aside0 (Below w0.heap.size w0 w'))
   case atStart => exact ⟨(0), (x139002_1), (by first | rfl | (simp; done) | (simp [*]; done)), H', ⟨Nat.le_refl _⟩, ⟨by (try simp only [hl139002_1]); (with_reducible repeat (first | apply Kd.R_alloc | apply Kd.R_drewN | apply Kd.R_drew)); exact HO_139002.out⟩, ⟨by (try simp only [hl139002_1]); (with_reducible repeat (first | refine blk_drewN ?_ _ | refine blk_drew ?_ | refine blk_alloc ?_ _)); exact BK138.out⟩, ⟨by repeat (first | (with_reducible first | exact HK.out | apply Kept.alloc | apply Kept.drewN | apply Kept.drew | refine Kept.setCell ?_ (.inr GW138.out) _) | exact HK.out)⟩, ⟨by repeat (first | (with_reducible first | exact HB.out | apply below_alloc | apply pw_below_drewN | apply below_drew1 | refine below_set ?_ GE138.out) | exact HB.out)⟩⟩
   case round =>
    clear H'
    try clear c1
    try clear p1
    try clear q1
    try clear hx1
    try clear p2
    try clear c3
    try clear c4
    try clear p6
    try clear c10
    try clear c10b0
    try clear c14
    try clear c14b0
    try clear c15
    try clear c15b0
    try clear p16
    try clear q16
    try clear hx16
    try clear hf16
    try clear hcz17_0
    try clear hcz17_1
    try clear hcz17_2
    try clear hcz21_0
    try clear hcz21_1
    try clear hcz21_2
    try clear hcz8_0
    try clear hcz8_1
    try clear hcz8_2
    try clear hfz17_0
    try clear hfz17_1
    try clear hfz17_2
    try clear hfz21_0
    try clear hfz21_1
    try clear hfz21_2
    try clear hfz8_0
    try clear hfz8_1
    try clear hfz8_2
    try clear hx16_0
    try clear p16
    try clear p2
    try clear q16
    obtain ⟨x8_2, x139002_2, rfl, HA, HK2, HO_139002, BK138, HK, HB⟩ := hrel
    have hl139002_2 := (Kd.R_reads' HO_139002.out).1
    rw [hl139002_2] at HO_139002
    (try simp only [hl139002_2])
    (try simp only [hl139002_2] at BK138)
    cases gk with
    | zero => exact absurd HA.out (by simp [spec_l03Clear.l1])
    | succ k2 =>
     have H := HA.out
     clear HA
     simp only [spec_l03Clear.l1] at H
     by_cases c22 : x8_2 < a0_0
     rotate_left
     ·
      rw [if_neg c22] at H
      have c22b0 : decide (x8_2 < a0_0) = false := decide_eq_false c22
      clear c22
      obtain rfl := Option.some.inj H
      have hcz43_0 : wr.cell? ⟨gb138, 0, none⟩ = some (.int .i64 a0_0) := (blk_cell BK138.out 0).trans rfl
      have hcz43_1 : wr.cell? ⟨gb138, 1, none⟩ = some (.int .i64 a0_1) := (blk_cell BK138.out 1).trans rfl
      have hcz43_2 : wr.cell? ⟨gb138, 2, none⟩ = some (.slice Ao6 x139002_2.length co6) := (blk_cell BK138.out 2).trans rfl
      have hfz43_0 := blk_frozen BK138.out 0
      have hfz43_1 := blk_frozen BK138.out 1
      have hfz43_2 := blk_frozen BK138.out 2
      go_wp2
      first | go_end0 | ((try simp only [Exit.inBlock, Exit.then]); refine bodyPost_ret (results_none rfl _ _ _) rfl ?_)
      exact ⟨by first | rfl | (simp [errW_none, errW_some] <;> rfl) | (simp [*, errW_none, errW_some] <;> rfl), (by first | exact (by first | exact Grow.rg HO_139002.out | exact HO_139002.out) | (simp only [hl139002_1, hl139002_2]; exact (by first | exact Grow.rg HO_139002.out | exact HO_139002.out))), by repeat (first | (with_reducible first | exact HB.out | apply below_alloc | apply pw_below_drewN | apply below_drew1 | refine below_set ?_ GE138.out) | exact HB.out), by repeat (first | (with_reducible first | exact HK.out | apply Kept.alloc | apply Kept.drewN | apply Kept.drew | refine Kept.setCell ?_ (.inr GW138.out) _) | exact HK.out)⟩
     rw [if_pos c22] at H
     have c22b0 : decide (x8_2 < a0_0) = true := decide_eq_true c22
     clear c22
     replace H := Option.bind_eq_some_iff.mp H
     obtain ⟨t144, A230, H⟩ := H
     replace H : (if x8_2 = a1 then (spec_l03Clear.j2 k2 a1 a2 x8_2 t144 true a0_0 a0_1 x139002_2) else (spec_l03Clear.j2 k2 a1 a2 x8_2 t144 (t144 == 0) a0_0 a0_1 x139002_2)) = some r := H
     have A23 := Aside0.mk A230
     clear A230
     have HC24 := Aside0.mk H
     clear H
     have hcz25_0 : wr.cell? ⟨gb138, 0, none⟩ = some (.int .i64 a0_0) := (blk_cell BK138.out 0).trans rfl
     have hcz25_1 : wr.cell? ⟨gb138, 1, none⟩ = some (.int .i64 a0_1) := (blk_cell BK138.out 1).trans rfl
     have hcz25_2 : wr.cell? ⟨gb138, 2, none⟩ = some (.slice Ao6 x139002_2.length co6) := (blk_cell BK138.out 2).trans rfl
     have hfz25_0 := blk_frozen BK138.out 0
     have hfz25_1 := blk_frozen BK138.out 1
     have hfz25_2 := blk_frozen BK138.out 2
     go_upto_region 10 with (first | ((with_reducible refine gate_callee (f := 31) rfl ?_); refine goesL_ (some 46) rfl rfl Try.func31 (by kernel_rfl) rfl #[.agg #[.int .i64 a0_0, .int .i64 a0_1, .slice Ao6 x139002_2.length co6], .int .i64 x8_2, .int .i64 a2] rfl (by (try simp only [List.map_toArray, List.map_cons, List.map_nil]); first | done | rfl | (simp only [List.length_drop, List.length_take]; rfl)) ?_; (with_reducible refine (spec_l03At.calls a0_0 a0_1 _ _ x139002_2 x8_2 a2 t144 _ ?side1 ?side2 A23.out).mono ?_); (case side1 => repeat (first | exact (Kd.R_reads' HO_139002.out).2.2 | (with_reducible refine Kd.C_alloc ?_ _) | (with_reducible refine Kd.C_drewN ?_ _) | (with_reducible refine Kd.C_drew ?_))); (case side2 => exact (Kd.R_reads' HO_139002.out).2.1); rintro e w26 ⟨rfl, hb⟩; refine ⟨_, rfl, ?_⟩; have n0_ := Aside0.mk (Kd.R_below (by first | exact Grow.rg HO_139002.out | exact HO_139002.out) hb); have n1_ := Aside0.mk (blk_below (g := gb138) (o := .cells #[.int .i64 a0_0, .int .i64 a0_1, .slice Ao6 x139002_2.length co6] 48 (0, 0)) (by first | exact Grow.bk BK138.out | exact BK138.out) hb); have n2_ := Aside0.mk (Kept.below (S := (fun k_ => P0_2_ k_)) (by repeat (first | (with_reducible first | exact HK.out | apply Kept.alloc | apply Kept.drewN | apply Kept.drew | refine Kept.setCell ?_ (.inr GW138.out) _) | exact HK.out)) hb); have n3_ := Aside0.mk (below_step (by repeat (first | (with_reducible first | exact HB.out | apply below_alloc | apply pw_below_drewN | apply below_drew1 | refine below_set ?_ GE138.out) | exact HB.out)) hb); clear HO_139002; clear BK138; clear HK; clear HB; have HO_139002 := n0_; have BK138 := n1_; have HK := n2_; have HB := n3_; clear n0_ n1_ n2_ n3_; (try clear hb); (try clear hb2); (try clear hk); (try clear hi)))
     (try simp only [Act.put, List.setIfInBounds_toArray, List.set_cons_zero, List.set_cons_succ])
     go_cut [53] (fun v53 wc => ∃ (kq : Nat) (x53_23 : Bool), v53 = .bool x53_23 ∧ Aside0 (spec_l03Clear.j2 kq a1 a2 x8_2 t144 x53_23 a0_0 a0_1 x139002_2 = some r) ∧ Aside0 (kq ≤ k2) ∧ Aside0 (Kd.R (Kd.int .i64) 2 wc w0.heap.size (fun k_ => (P0_2_ k_ ∨ w.heap.size ≤ k_)) (.slice Ao6 x139002_2.length co6) x139002_2) ∧ Aside0 (wc.heap[gb138]? = some (.cells #[.int .i64 a0_0, .int .i64 a0_1, (.slice Ao6 x139002_2.length co6)] 48 (0, 0))) ∧ Aside0 (Kept w wc (fun k_ => P0_2_ k_)) ∧ Aside0 (Below w0.heap.size w0 wc))
     case first =>
      have H := HC24.out
      clear HC24
      by_cases c27 : x8_2 = a1
      rotate_left
      ·
       rw [if_neg c27] at H
       have c27b0 : (x8_2 == a1) = false := beq_eq_false_iff_ne.mpr c27
       have c27b1 : (x8_2 != a1) = true := bne_iff_ne.mpr c27
       (first | rw [c27b0] | rw [c27b1] | (simp only [i64_w, i32_w]; rw [c27b0]) | skip)
       have H' := Aside0.mk H
       clear H
       go_wp2
       go_meet
       case rel => exact ⟨_, ((t144 == 0)), (by first | rfl | (simp; done) | (simp [*]; done)), H', ⟨by have := HK1.out; have := HK2.out; first | omega | exact Nat.le_refl _⟩, ⟨by (try simp only [hl139002_1]); (try simp only [hl139002_2]); (with_reducible repeat (first | apply Kd.R_alloc | apply Kd.R_drewN | apply Kd.R_drew)); exact HO_139002.out⟩, ⟨by (try simp only [hl139002_1]); (try simp only [hl139002_2]); (with_reducible repeat (first | refine blk_drewN ?_ _ | refine blk_drew ?_ | refine blk_alloc ?_ _)); exact BK138.out⟩, ⟨by repeat (first | (with_reducible first | exact HK.out | apply Kept.alloc | apply Kept.drewN | apply Kept.drew | refine Kept.setCell ?_ (.inr GW138.out) _) | exact HK.out)⟩, ⟨by repeat (first | (with_reducible first | exact HB.out | apply below_alloc | apply pw_below_drewN | apply below_drew1 | refine below_set ?_ GE138.out) | exact HB.out)⟩⟩
      rw [if_pos c27] at H
      have c27b0 : (x8_2 == a1) = true := beq_iff_eq.mpr c27
      have c27b1 : (x8_2 != a1) = false := bne_eq_false_iff_eq.mpr c27
      clear c27
      (first | rw [c27b0] | rw [c27b1] | (simp only [i64_w, i32_w]; rw [c27b0]) | skip)
      have H' := Aside0.mk H
      clear H
      go_wp2
      go_meet
      case rel => exact ⟨_, (true), (by first | rfl | (simp; done) | (simp [*]; done)), H', ⟨by have := HK1.out; have := HK2.out; first | omega | exact Nat.le_refl _⟩, ⟨by (try simp only [hl139002_1]); (try simp only [hl139002_2]); (with_reducible repeat (first | apply Kd.R_alloc | apply Kd.R_drewN | apply Kd.R_drew)); exact HO_139002.out⟩, ⟨by (try simp only [hl139002_1]); (try simp only [hl139002_2]); (with_reducible repeat (first | refine blk_drewN ?_ _ | refine blk_drew ?_ | refine blk_alloc ?_ _)); exact BK138.out⟩, ⟨by repeat (first | (with_reducible first | exact HK.out | apply Kept.alloc | apply Kept.drewN | apply Kept.drew | refine Kept.setCell ?_ (.inr GW138.out) _) | exact HK.out)⟩, ⟨by repeat (first | (with_reducible first | exact HB.out | apply below_alloc | apply pw_below_drewN | apply below_drew1 | refine below_set ?_ GE138.out) | exact HB.out)⟩⟩
     case rest =>
      clear HC24
      try clear c1
      try clear p1
      try clear q1
      try clear hx1
      try clear c2
      try clear p2
      try clear c3
      try clear c4
      try clear p6
      try clear c10
      try clear c10b0
      try clear c14
      try clear c14b0
      try clear c15
      try clear c15b0
      try clear p16
      try clear q16
      try clear hx16
      try clear hf16
      try clear c22
      try clear c22b0
      try clear c27
      try clear c27b0
      try clear c27b1
      try clear hcz17_0
      try clear hcz17_1
      try clear hcz17_2
      try clear hcz21_0
      try clear hcz21_1
      try clear hcz21_2
      try clear hcz25_0
      try clear hcz25_1
      try clear hcz25_2
      try clear hcz8_0
      try clear hcz8_1
      try clear hcz8_2
      try clear hfz17_0
      try clear hfz17_1
      try clear hfz17_2
      try clear hfz21_0
      try clear hfz21_1
      try clear hfz21_2
      try clear hfz25_0
      try clear hfz25_1
      try clear hfz25_2
      try clear hfz8_0
      try clear hfz8_1
      try clear hfz8_2
      try clear hx16_0
      try clear p1
      try clear p16
      try clear p2
      try clear p6
      try clear q1
      try clear q16
      obtain ⟨kq, x53_23, rfl, HA, HJ23, HO_139002, BK138, HK, HB⟩ := hcut
      cases kq with
      | zero => exact absurd HA.out (by simp [spec_l03Clear.j2])
      | succ kj23 =>
       have H := HA.out
       clear HA
       simp only [spec_l03Clear.j2] at H
       by_cases c28 : x53_23 = true
       ·
        subst c28
        have H1 : (spec_l03Clear.l1 kj23 a1 a2 (wrap64 (x8_2 + 1)) a0_0 a0_1 x139002_2) = some r := by rw [if_pos rfl] at H; exact H
        clear H
        have H := H1
        clear H1
        have H' := Aside0.mk H
        clear H
        go_wp2
        (try simp only [← hl139002_2])
        go_roundg kj23
        case measure => have := HK1.out; have := HK2.out; have := HJ23.out; omega
        case rel => exact ⟨(wrap64 (x8_2 + 1)), (x139002_2), (by first | rfl | (simp; done) | (simp [*]; done)), H', ⟨by have := HK1.out; have := HK2.out; have := HJ23.out; omega⟩, ⟨by (try simp only [hl139002_1]); (try simp only [hl139002_2]); (with_reducible repeat (first | apply Kd.R_alloc | apply Kd.R_drewN | apply Kd.R_drew)); exact HO_139002.out⟩, ⟨by (try simp only [hl139002_1]); (try simp only [hl139002_2]); (with_reducible repeat (first | refine blk_drewN ?_ _ | refine blk_drew ?_ | refine blk_alloc ?_ _)); exact BK138.out⟩, ⟨by repeat (first | (with_reducible first | exact HK.out | apply Kept.alloc | apply Kept.drewN | apply Kept.drew | refine Kept.setCell ?_ (.inr GW138.out) _) | exact HK.out)⟩, ⟨by repeat (first | (with_reducible first | exact HB.out | apply below_alloc | apply pw_below_drewN | apply below_drew1 | refine below_set ?_ GE138.out) | exact HB.out)⟩⟩
       replace c28 := Bool.eq_false_iff.mpr c28
       subst c28
       have H1 : (spec_l03Clear.l2 kj23 a1 a2 x8_2 t144 0 a0_0 a0_1 x139002_2) = some r := by rw [if_neg (show ¬ (false = true) by decide)] at H; exact H
       clear H
       have H := H1
       clear H1
       have H' := Aside0.mk H
       clear H
       go_wp2
       go_loopg [10] kj23 (fun kq v10 w' => ∃ (x10_4 : Int) (x139002_4 : List Int), v10 = .int .i64 x10_4 ∧ Aside0 (spec_l03Clear.l2 kq a1 a2 x8_2 t144 x10_4 a0_0 a0_1 x139002_4 = some r) ∧ Aside0 (kq ≤ kj23) ∧ Aside0 (Kd.R (Kd.int .i64) 2 w' w0.heap.size (fun k_ => (P0_2_ k_ ∨ w.heap.size ≤ k_)) (.slice Ao6 x139002_2.length co6) x139002_4) ∧ Aside0 (w'.heap[gb138]? = some (.cells #[.int .i64 a0_0, .int .i64 a0_1, (.slice Ao6 x139002_2.length co6)] 48 (0, 0))) ∧ Aside0 (Kept w w' (fun k_ => P0_2_ k_)) ∧ Aside0 (Below w0.heap.size w0 w'))
       case atStart => exact ⟨(0), (x139002_2), (by first | rfl | (simp; done) | (simp [*]; done)), H', ⟨Nat.le_refl _⟩, ⟨by (try simp only [hl139002_1]); (try simp only [hl139002_2]); (with_reducible repeat (first | apply Kd.R_alloc | apply Kd.R_drewN | apply Kd.R_drew)); exact HO_139002.out⟩, ⟨by (try simp only [hl139002_1]); (try simp only [hl139002_2]); (with_reducible repeat (first | refine blk_drewN ?_ _ | refine blk_drew ?_ | refine blk_alloc ?_ _)); exact BK138.out⟩, ⟨by repeat (first | (with_reducible first | exact HK.out | apply Kept.alloc | apply Kept.drewN | apply Kept.drew | refine Kept.setCell ?_ (.inr GW138.out) _) | exact HK.out)⟩, ⟨by repeat (first | (with_reducible first | exact HB.out | apply below_alloc | apply pw_below_drewN | apply below_drew1 | refine below_set ?_ GE138.out) | exact HB.out)⟩⟩
       case round =>
        clear H'
        try clear c1
        try clear p1
        try clear q1
        try clear hx1
        try clear c2
        try clear p2
        try clear c3
        try clear c4
        try clear p6
        try clear c10
        try clear c10b0
        try clear c14
        try clear c14b0
        try clear c15
        try clear c15b0
        try clear p16
        try clear q16
        try clear hx16
        try clear hf16
        try clear c22
        try clear c22b0
        try clear c27
        try clear c27b0
        try clear c27b1
        try clear c28
        try clear hcz17_0
        try clear hcz17_1
        try clear hcz17_2
        try clear hcz21_0
        try clear hcz21_1
        try clear hcz21_2
        try clear hcz25_0
        try clear hcz25_1
        try clear hcz25_2
        try clear hcz8_0
        try clear hcz8_1
        try clear hcz8_2
        try clear hfz17_0
        try clear hfz17_1
        try clear hfz17_2
        try clear hfz21_0
        try clear hfz21_1
        try clear hfz21_2
        try clear hfz25_0
        try clear hfz25_1
        try clear hfz25_2
        try clear hfz8_0
        try clear hfz8_1
        try clear hfz8_2
        try clear hx16_0
        try clear p1
        try clear p16
        try clear p2
        try clear p6
        try clear q1
        try clear q16
        obtain ⟨x10_4, x139002_4, rfl, HA, HK4, HO_139002, BK138, HK, HB⟩ := hrel
        have hl139002_4 := (Kd.R_reads' HO_139002.out).1
        rw [hl139002_4] at HO_139002
        (try simp only [hl139002_4])
        (try simp only [hl139002_4] at BK138)
        cases gk with
        | zero => exact absurd HA.out (by simp [spec_l03Clear.l2])
        | succ k4 =>
         have H := HA.out
         clear HA
         simp only [spec_l03Clear.l2] at H
         by_cases c29 : x10_4 < a0_1
         rotate_left
         ·
          rw [if_neg c29] at H
          have c29b0 : decide (x10_4 < a0_1) = false := decide_eq_false c29
          clear c29
          have H' := Aside0.mk H
          clear H
          have hcz42_0 : wr.cell? ⟨gb138, 0, none⟩ = some (.int .i64 a0_0) := (blk_cell BK138.out 0).trans rfl
          have hcz42_1 : wr.cell? ⟨gb138, 1, none⟩ = some (.int .i64 a0_1) := (blk_cell BK138.out 1).trans rfl
          have hcz42_2 : wr.cell? ⟨gb138, 2, none⟩ = some (.slice Ao6 x139002_4.length co6) := (blk_cell BK138.out 2).trans rfl
          have hfz42_0 := blk_frozen BK138.out 0
          have hfz42_1 := blk_frozen BK138.out 1
          have hfz42_2 := blk_frozen BK138.out 2
          go_wp2
          (try simp only [← hl139002_2, ← hl139002_4])
          go_roundg k4
          case measure => have := HK1.out; have := HK2.out; have := HJ23.out; have := HK4.out; omega
          case rel => exact ⟨(wrap64 (x8_2 + 1)), (x139002_4), (by first | rfl | (simp; done) | (simp [*]; done)), H', ⟨by have := HK1.out; have := HK2.out; have := HJ23.out; have := HK4.out; omega⟩, ⟨by (try simp only [hl139002_1]); (try simp only [hl139002_2]); (try simp only [hl139002_4]); (with_reducible repeat (first | apply Kd.R_alloc | apply Kd.R_drewN | apply Kd.R_drew)); exact HO_139002.out⟩, ⟨by (try simp only [hl139002_1]); (try simp only [hl139002_2]); (try simp only [hl139002_4]); (with_reducible repeat (first | refine blk_drewN ?_ _ | refine blk_drew ?_ | refine blk_alloc ?_ _)); exact BK138.out⟩, ⟨by repeat (first | (with_reducible first | exact HK.out | apply Kept.alloc | apply Kept.drewN | apply Kept.drew | refine Kept.setCell ?_ (.inr GW138.out) _) | exact HK.out)⟩, ⟨by repeat (first | (with_reducible first | exact HB.out | apply below_alloc | apply pw_below_drewN | apply below_drew1 | refine below_set ?_ GE138.out) | exact HB.out)⟩⟩
         rw [if_pos c29] at H
         have c29b0 : decide (x10_4 < a0_1) = true := decide_eq_true c29
         clear c29
         replace H := Option.bind_eq_some_iff.mp H
         obtain ⟨t145, A300, H⟩ := H
         replace H : ((spec_l03At.f a0_0 a0_1 x139002_4 a1 x10_4).bind fun t146 => ((spec_Mul8.f k4 t144 t146).bind fun t147 => (if 0 ≤ (wrap64 ((wrap64 (x8_2 * a0_1)) + x10_4)) then (if (wrap64 ((wrap64 (x8_2 * a0_1)) + x10_4)) < (x139002_4.length : Int) then (spec_l03Clear.l2 k4 a1 a2 x8_2 t144 (wrap64 (x10_4 + 1)) a0_0 a0_1 (x139002_4.set ((wrap64 ((wrap64 (x8_2 * a0_1)) + x10_4)) : Int).toNat (Go.bits .xor .i64 t145 t147))) else (none)) else (none)))) = some r := H
         have A30 := Aside0.mk A300
         clear A300
         replace H := Option.bind_eq_some_iff.mp H
         obtain ⟨t146, A310, H⟩ := H
         replace H : ((spec_Mul8.f k4 t144 t146).bind fun t147 => (if 0 ≤ (wrap64 ((wrap64 (x8_2 * a0_1)) + x10_4)) then (if (wrap64 ((wrap64 (x8_2 * a0_1)) + x10_4)) < (x139002_4.length : Int) then (spec_l03Clear.l2 k4 a1 a2 x8_2 t144 (wrap64 (x10_4 + 1)) a0_0 a0_1 (x139002_4.set ((wrap64 ((wrap64 (x8_2 * a0_1)) + x10_4)) : Int).toNat (Go.bits .xor .i64 t145 t147))) else (none)) else (none))) = some r := H
         have A31 := Aside0.mk A310
         clear A310
         replace H := Option.bind_eq_some_iff.mp H
         obtain ⟨t147, A320, H⟩ := H
         replace H : (if 0 ≤ (wrap64 ((wrap64 (x8_2 * a0_1)) + x10_4)) then (if (wrap64 ((wrap64 (x8_2 * a0_1)) + x10_4)) < (x139002_4.length : Int) then (spec_l03Clear.l2 k4 a1 a2 x8_2 t144 (wrap64 (x10_4 + 1)) a0_0 a0_1 (x139002_4.set ((wrap64 ((wrap64 (x8_2 * a0_1)) + x10_4)) : Int).toNat (Go.bits .xor .i64 t145 t147))) else (none)) else (none)) = some r := H
         have A32 := Aside0.mk A320
         clear A320
         obtain ⟨ji33, hji33⟩ : ∃ j_ : Int, (wrap64 ((wrap64 (x8_2 * a0_1)) + x10_4)) = j_ := ⟨_, rfl⟩
         replace H : (if 0 ≤ (ji33) then (if (ji33) < (x139002_4.length : Int) then (spec_l03Clear.l2 k4 a1 a2 x8_2 t144 (wrap64 (x10_4 + 1)) a0_0 a0_1 (x139002_4.set ((ji33) : Int).toNat (Go.bits .xor .i64 t145 t147))) else (none)) else (none)) = some r := by first | (rw [hji33] at H; exact H) | (simp only [hji33] at H ⊢; exact H)
         (try rw [hji33] at A30)
         (try rw [hji33] at A31)
         (try rw [hji33] at A32)
         have hji33w : (IntKind.i64.wrap ((wrap64 (x8_2 * a0_1)) + x10_4)) = ji33 := (i64_w _).trans hji33
         by_cases c34 : 0 ≤ (ji33)
         rotate_left
         ·
          rw [if_neg c34] at H
          exact absurd H (by simp)
         rw [if_pos c34] at H
         have c34b0 : decide (0 ≤ (ji33)) = true := decide_eq_true c34
         clear c34
         by_cases c35 : (ji33) < (x139002_4.length : Int)
         rotate_left
         ·
          rw [if_neg c35] at H
          exact absurd H (by simp)
         rw [if_pos c35] at H
         have c35b0 : decide ((ji33) < (x139002_4.length : Int)) = true := decide_eq_true c35
         clear c35
         obtain ⟨y148, hy148⟩ : ∃ y_ : List Int, y_ = (x139002_4.set ((ji33) : Int).toNat (Go.bits .xor .i64 t145 t147)) := ⟨_, rfl⟩
         replace H : (spec_l03Clear.l2 k4 a1 a2 x8_2 t144 (wrap64 (x10_4 + 1)) a0_0 a0_1 y148) = some r := by first | (rw [hy148]; with_reducible exact H) | (have H2_ := (Option.bind_some _ _).symm.trans H; rw [hy148]; with_reducible exact H2_) | (have H2_ := (Option.bind_some _ _).symm.trans H; with_reducible exact H2_) | with_reducible exact H | (rw [hy148]; exact H) | exact H
         have Ny148 := Aside0.mk hy148
         clear hy148
         have H' := Aside0.mk H
         clear H
         have hcz37_0 : wr.cell? ⟨gb138, 0, none⟩ = some (.int .i64 a0_0) := (blk_cell BK138.out 0).trans rfl
         have hcz37_1 : wr.cell? ⟨gb138, 1, none⟩ = some (.int .i64 a0_1) := (blk_cell BK138.out 1).trans rfl
         have hcz37_2 : wr.cell? ⟨gb138, 2, none⟩ = some (.slice Ao6 x139002_4.length co6) := (blk_cell BK138.out 2).trans rfl
         have hfz37_0 := blk_frozen BK138.out 0
         have hfz37_1 := blk_frozen BK138.out 1
         have hfz37_2 := blk_frozen BK138.out 2
         try go_wp2
         have n0_ := Aside0.mk (Kd.R_drew HO_139002.out)
         have n1_ := Aside0.mk (blk_drew BK138.out)
         have n2_ := Aside0.mk (Kept.drew HK.out)
         have n3_ := Aside0.mk (below_drew1 HB.out)
         clear HO_139002
         clear BK138
         clear HK
         clear HB
         have HO_139002 := n0_
         have BK138 := n1_
         have HK := n2_
         have HB := n3_
         clear n0_ n1_ n2_ n3_
         refine start_ (n := 21) (S := fun w' => w'.cell? ⟨gb138, 0, none⟩ = some (.int .i64 a0_0) ∧ w'.cell? ⟨gb138, 1, none⟩ = some (.int .i64 a0_1) ∧ w'.cell? ⟨gb138, 2, none⟩ = some (.slice Ao6 x139002_4.length co6)) (ds := [20]) zf61 (by kernel_rfl) rfl rfl ⟨(blk_cell BK138.out 0).trans rfl, (blk_cell BK138.out 1).trans rfl, (blk_cell BK138.out 2).trans rfl⟩ (fun hHeld => ?_); refine with_tabW spec_l03Clear.tab14 spec_l03Clear.bits14 (fun HT_ HW_ => ?_)
         generalize wr.drew = w38 at HO_139002 BK138 HK HB hHeld ⊢
         refine Cap.pu (v := ?_) (a' := ?_) 0 (some 60) zf62 HT_ rfl rfl (by kernel_rfl) (fun _ _ _ h => h) (Or.inl ⟨by rfl, ?_⟩) ?_ ?_; rotate_left; intro w'; go_simp; with_reducible rfl; rotate_left; simp only [Cap.pz]; rfl
         refine Cap.pu (v := ?_) (a' := ?_) 2 (some 62) zf63 HT_ rfl rfl (by kernel_rfl) (fun _ _ _ h => h) (Or.inl ⟨by rfl, ?_⟩) ?_ ?_; rotate_left; intro w'; go_simp; with_reducible rfl; rotate_left; simp only [Cap.pz]; rfl
         refine Cap.pu (v := ?_) (a' := ?_) 3 (some 63) zf64 HT_ rfl rfl (by kernel_rfl) (fun _ _ _ h => h) (Or.inl ⟨by rfl, ?_⟩) ?_ ?_; rotate_left; intro w'; go_simp; with_reducible rfl; rotate_left; simp only [Cap.pz]; rfl
         refine Cap.pu (v := ?_) (a' := ?_) 6 (some 66) zf65 HT_ rfl rfl (by kernel_rfl) (fun _ _ _ h => h) (Or.inl ⟨by rfl, ?_⟩) ?_ ?_; rotate_left; intro w'; go_simp; with_reducible rfl; rotate_left; simp only [Cap.pz]; rfl
         refine Cap.pu (v := ?_) (a' := ?_) 9 (some 69) zf66 HT_ rfl rfl (by kernel_rfl) (fun _ _ _ h => h) (Or.inl ⟨by rfl, ?_⟩) ?_ ?_; rotate_left; intro w'; go_simp; with_reducible rfl; rotate_left; simp only [Cap.pz]; rfl
         refine Cap.pu (v := ?_) (a' := ?_) 10 (some 70) zf67 HT_ rfl rfl (by kernel_rfl) (fun _ _ _ h => h) (Or.inl ⟨by rfl, ?_⟩) ?_ ?_; rotate_left; intro w'; go_simp; with_reducible rfl; rotate_left; simp only [Cap.pz]; rfl
         refine Cap.pu (v := ?_) (a' := ?_) 12 (some 72) zf68 HT_ rfl rfl (by kernel_rfl) (fun _ _ _ h => h) (Or.inl ⟨by rfl, ?_⟩) ?_ ?_; rotate_left; intro w'; go_simp; with_reducible rfl; rotate_left; simp only [Cap.pz]; rfl
         refine Cap.pu (v := ?_) (a' := ?_) 14 (some 74) zf69 HT_ rfl rfl (by kernel_rfl) (fun _ _ _ h => h) (Or.inl ⟨by rfl, ?_⟩) ?_ ?_; rotate_left; intro w'; go_simp; with_reducible rfl; rotate_left; simp only [Cap.pz]; rfl
         refine Cap.pu (v := ?_) (a' := ?_) 15 (some 75) zf70 HT_ rfl rfl (by kernel_rfl) (fun _ _ _ h => h) (Or.inl ⟨by rfl, ?_⟩) ?_ ?_; rotate_left; intro w'; go_simp; with_reducible rfl; rotate_left; simp only [Cap.pz]; rfl
         refine take_ (i := 1) (N := some 61) (v := ?_) (a' := ?_) zf71 rfl rfl (take_ofW HT_.out HW_.out (by kernel_rfl)) (fun _ _ _ h => h) (Or.inl ⟨by rfl, ?_⟩) hHeld ?_ ?_; rotate_left; rintro w' ⟨s0, s1, s2⟩; go_simp; with_reducible rfl; rotate_left; simp only [Cap.pz]; rfl
         refine take_ (i := 4) (N := some 64) (v := ?_) (a' := ?_) zf72 rfl rfl (take_ofW HT_.out HW_.out (by kernel_rfl)) (fun _ _ _ h => h) (Or.inl ⟨by rfl, ?_⟩) hHeld ?_ ?_; rotate_left; rintro w' ⟨s0, s1, s2⟩; go_simp; with_reducible rfl; rotate_left; simp only [Cap.pz]; rfl
         refine Cap.pu (v := ?_) (a' := ?_) 5 (some 65) zf73 HT_ rfl rfl (by kernel_rfl) (fun _ _ _ h => h) (Or.inl ⟨by rfl, ?_⟩) ?_ ?_; rotate_left; intro w'; go_simp; with_reducible rfl; rotate_left; simp only [Cap.pz]; rfl
         refine Cap.pu (v := ?_) (a' := ?_) 7 (some 67) zf74 HT_ rfl rfl (by kernel_rfl) (fun _ _ _ h => h) (Or.inl ⟨by rfl, ?_⟩) ?_ ?_; rotate_left; intro w'; go_simp; with_reducible rfl; rotate_left; simp only [Cap.pz]; rfl
         refine take_ (i := 8) (N := some 68) (v := ?_) (a' := ?_) zf75 rfl rfl (take_ofW HT_.out HW_.out (by kernel_rfl)) (fun _ _ _ h => h) (Or.inl ⟨by rfl, ?_⟩) hHeld ?_ ?_; rotate_left; rintro w' ⟨s0, s1, s2⟩; go_simp; with_reducible rfl; rotate_left; simp only [Cap.pz]; rfl
         refine take_ (i := 13) (N := some 73) (v := ?_) (a' := ?_) zf76 rfl rfl (take_ofW HT_.out HW_.out (by kernel_rfl)) (fun _ _ _ h => h) (Or.inl ⟨by rfl, ?_⟩) hHeld ?_ ?_; rotate_left; rintro w' ⟨s0, s1, s2⟩; go_simp; with_reducible rfl; rotate_left; simp only [Cap.pz]; rfl
         refine one_ (i := 11) (N := some 71) zf77 rfl rfl (one_of HT_.out (by kernel_rfl)) (by decide) (fun K hK => ?_)
         refine goes_ Try.func31 (by kernel_rfl) rfl #[.agg #[.int .i64 a0_0, .int .i64 a0_1, .slice Ao6 x139002_4.length co6], .int .i64 x8_2, .int .i64 x10_4] (by rfl) rfl rfl (by (try simp only [List.map_toArray, List.map_cons, List.map_nil]); first | done | rfl | (simp only [List.length_drop, List.length_take]; rfl)) ?_
         with_reducible refine (spec_l03At.calls a0_0 a0_1 _ _ x139002_4 x8_2 x10_4 t145 _ ?side1 ?side2 A30.out).mono ?_
         (case side1 => repeat (first | exact (Kd.R_reads' HO_139002.out).2.2 | (with_reducible refine Kd.C_alloc ?_ _) | (with_reducible refine Kd.C_drewN ?_ _) | (with_reducible refine Kd.C_drew ?_)))
         (case side2 => exact (Kd.R_reads' HO_139002.out).2.1)
         rintro e w39 ⟨rfl, hb⟩
         refine ⟨_, rfl, ?_⟩
         have n0_ := Aside0.mk (Kd.R_below (by first | exact Grow.rg HO_139002.out | exact HO_139002.out) hb)
         have n1_ := Aside0.mk (blk_below (g := gb138) (o := .cells #[.int .i64 a0_0, .int .i64 a0_1, .slice Ao6 x139002_4.length co6] 48 (0, 0)) (by first | exact Grow.bk BK138.out | exact BK138.out) hb)
         have n2_ := Aside0.mk (Kept.below (S := (fun k_ => P0_2_ k_)) (by repeat (first | (with_reducible first | exact HK.out | apply Kept.alloc | apply Kept.drewN | apply Kept.drew | refine Kept.setCell ?_ (.inr GW138.out) _) | exact HK.out)) hb)
         have n3_ := Aside0.mk (below_step (by repeat (first | (with_reducible first | exact HB.out | apply below_alloc | apply pw_below_drewN | apply below_drew1 | refine below_set ?_ GE138.out) | exact HB.out)) hb)
         clear HO_139002
         clear BK138
         clear HK
         clear HB
         have HO_139002 := n0_
         have BK138 := n1_
         have HK := n2_
         have HB := n3_
         clear n0_ n1_ n2_ n3_
         (try clear hb)
         (try clear hb2)
         (try clear hk)
         (try clear hi)
         refine hK.out _ _ ⟨(blk_cell BK138.out 0).trans rfl, (blk_cell BK138.out 1).trans rfl, (blk_cell BK138.out 2).trans rfl⟩ (fun hHeld => ?_)
         clear hK K
         refine norm_ (a' := ?_) ?_ ?_; rotate_left; show Act.put _ (some 71) _ = _; simp only [Cap.pz]; rfl
         refine one_ (i := 16) (N := some 76) zf78 rfl rfl (one_of HT_.out (by kernel_rfl)) (by decide) (fun K hK => ?_)
         refine goes_ Try.func31 (by kernel_rfl) rfl #[.agg #[.int .i64 a0_0, .int .i64 a0_1, .slice Ao6 x139002_4.length co6], .int .i64 a1, .int .i64 x10_4] (by rfl) rfl rfl (by (try simp only [List.map_toArray, List.map_cons, List.map_nil]); first | done | rfl | (simp only [List.length_drop, List.length_take]; rfl)) ?_
         with_reducible refine (spec_l03At.calls a0_0 a0_1 _ _ x139002_4 a1 x10_4 t146 _ ?side1 ?side2 A31.out).mono ?_
         (case side1 => repeat (first | exact (Kd.R_reads' HO_139002.out).2.2 | (with_reducible refine Kd.C_alloc ?_ _) | (with_reducible refine Kd.C_drewN ?_ _) | (with_reducible refine Kd.C_drew ?_)))
         (case side2 => exact (Kd.R_reads' HO_139002.out).2.1)
         rintro e w40 ⟨rfl, hb⟩
         refine ⟨_, rfl, ?_⟩
         have n0_ := Aside0.mk (Kd.R_below (by first | exact Grow.rg HO_139002.out | exact HO_139002.out) hb)
         have n1_ := Aside0.mk (blk_below (g := gb138) (o := .cells #[.int .i64 a0_0, .int .i64 a0_1, .slice Ao6 x139002_4.length co6] 48 (0, 0)) (by first | exact Grow.bk BK138.out | exact BK138.out) hb)
         have n2_ := Aside0.mk (Kept.below (S := (fun k_ => P0_2_ k_)) (by repeat (first | (with_reducible first | exact HK.out | apply Kept.alloc | apply Kept.drewN | apply Kept.drew | refine Kept.setCell ?_ (.inr GW138.out) _) | exact HK.out)) hb)
         have n3_ := Aside0.mk (below_step (by repeat (first | (with_reducible first | exact HB.out | apply below_alloc | apply pw_below_drewN | apply below_drew1 | refine below_set ?_ GE138.out) | exact HB.out)) hb)
         clear HO_139002
         clear BK138
         clear HK
         clear HB
         have HO_139002 := n0_
         have BK138 := n1_
         have HK := n2_
         have HB := n3_
         clear n0_ n1_ n2_ n3_
         (try clear hb)
         (try clear hb2)
         (try clear hk)
         (try clear hi)
         refine hK.out _ _ ⟨(blk_cell BK138.out 0).trans rfl, (blk_cell BK138.out 1).trans rfl, (blk_cell BK138.out 2).trans rfl⟩ (fun hHeld => ?_)
         clear hK K
         refine norm_ (a' := ?_) ?_ ?_; rotate_left; show Act.put _ (some 76) _ = _; simp only [Cap.pz]; rfl
         refine one_ (i := 17) (N := some 77) zf79 rfl rfl (one_of HT_.out (by kernel_rfl)) (by decide) (fun K hK => ?_)
         refine goes_ Try.func40 (by kernel_rfl) rfl #[.int .i64 t144, .int .i64 t146] (by rfl) rfl rfl (by (try simp only [List.map_toArray, List.map_cons, List.map_nil]); first | done | rfl | (simp only [List.length_drop, List.length_take]; rfl)) ?_
         with_reducible refine (spec_Mul8.calls k4 t144 t146 t147 _ A32.out).mono ?_
         rintro e w' ⟨rfl, ⟨nd, rfl⟩⟩
         refine ⟨_, rfl, ?_⟩
         have p36 : 0 ≤ ((ji33) : Int) := of_decide_eq_true (by first | (with_reducible assumption) | assumption)
         have q36 : ((ji33) : Int) < ((x139002_4.length : Int) : Int) := of_decide_eq_true (by first | (with_reducible assumption) | assumption)
         obtain ⟨go36, co36, eo36, gb36, gl36, cl36, HG36⟩ := Kd.R_form HO_139002.out (by omega)
         (first | cases eo36 | (injection eo36 with ea_ en_ ec_; (first | subst ea_ | (injection ea_ with ea_; subst ea_)); subst ec_; clear en_))
         have GB36 := Aside0.mk gb36
         have GG36 := Aside0.mk HG36
         clear gb36 gl36 HG36
         have HMgo36 := Aside0.mk (show (P0_2_ go36 ∨ w.heap.size ≤ go36) from (HO_139002.out.1 _ rfl))
         obtain ⟨hx36_0, hf36_0⟩ := Kd.R_celln 0 HO_139002.out ((ji33) : Int) p36 q36
         replace p36 := eq_true p36
         replace q36 := eq_true q36
         have HP41 := Kd.R_putn HO_139002.out ((ji33) : Int) (Go.bits .xor .i64 t145 t147)
         rw [← Ny148.out] at HP41
         have HQ41 := Aside0.mk HP41
         clear HP41
         refine hK.out _ _ ⟨(blk_cell BK138.out 0).trans rfl, (blk_cell BK138.out 1).trans rfl, (blk_cell BK138.out 2).trans rfl⟩ (fun hHeld => ?_)
         clear hK K
         refine norm_ (a' := ?_) ?_ ?_; rotate_left; show Act.put _ (some 77) _ = _; simp only [Cap.pz]; rfl
         refine Cap.pu (v := ?_) (a' := ?_) 18 (some 78) zf80 HT_ rfl rfl (by kernel_rfl) (fun _ _ _ h => h) (Or.inl ⟨by rfl, ?_⟩) ?_ ?_; rotate_left; intro w'; go_simp; with_reducible rfl; rotate_left; simp only [Cap.pz]; rfl
         refine Cap.pu (v := ?_) (a' := ?_) 19 (some 79) zf81 HT_ rfl rfl (by kernel_rfl) (fun _ _ _ h => h) (Or.inl ⟨by rfl, ?_⟩) ?_ ?_; rotate_left; intro w'; go_simp; with_reducible rfl; rotate_left; simp only [Cap.pz]; rfl
         refine last_ (i := 20) (N := none) zf82 rfl rfl (one_of HT_.out (by kernel_rfl)) (by decide) (fun K hK => ?_)
         refine skip_ (w1 := ?_) (by rfl) rfl ?_ ?_
         rotate_left
         ·
          go_simp
          rfl
         refine hK.out _ _ ?_
         clear hK K
         refine done_ (done_of HT_.out (by kernel_rfl)) ?_
         try go_wp2
         (try simp only [← hl139002_4])
         go_roundg k4
         case measure => have := HK1.out; have := HK2.out; have := HJ23.out; have := HK4.out; omega
         case rel => exact ⟨(wrap64 (x10_4 + 1)), (y148), (by first | rfl | (simp; done) | (simp [*]; done)), H', ⟨by have := HK1.out; have := HK2.out; have := HJ23.out; have := HK4.out; omega⟩, ⟨by (try simp only [hl139002_1]); (try simp only [hl139002_2]); (try simp only [hl139002_4]); (with_reducible repeat (first | apply Kd.R_alloc | apply Kd.R_drewN | apply Kd.R_drew)); exact HQ41.out⟩, ⟨by (try simp only [hl139002_1]); (try simp only [hl139002_2]); (try simp only [hl139002_4]); (with_reducible repeat (first | refine blk_drewN ?_ _ | refine blk_drew ?_ | refine blk_alloc ?_ _)); refine blk_far ?_ (by have h_ := Kd.R_ne HO_139002.out BK138.out (by decide); intro e_; exact h_ (by rw [e_]; rfl)) _; (with_reducible repeat (first | refine blk_drewN ?_ _ | refine blk_drew ?_ | refine blk_alloc ?_ _)); exact BK138.out⟩, ⟨by repeat (first | (with_reducible first | exact HK.out | apply Kept.alloc | apply Kept.drewN | apply Kept.drew | refine Kept.setCell ?_ HMgo36.out _ | refine Kept.setCell ?_ (.inr GW138.out) _) | exact HK.out)⟩, ⟨by repeat (first | (with_reducible first | exact HB.out | apply below_alloc | apply pw_below_drewN | apply below_drew1 | refine below_set ?_ GB36.out | refine below_set ?_ GE138.out) | exact HB.out)⟩⟩

end Go.Proofs.Yteflpfkfmohenaa.QFnExactRepairPlan
