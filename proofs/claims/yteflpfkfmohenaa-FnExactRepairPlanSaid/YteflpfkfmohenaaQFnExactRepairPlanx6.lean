-- A text of this session, printed by a program of its own (wip/tools: xpatch.py, xprint.sh, mkq.py). No condition.
import Derived.Test.YteflpfkfmohenaaQFnExactRepairPlanx0
import Derived.Test.YteflpfkfmohenaaQFnExactRepairPlanx2
import Derived.Test.YteflpfkfmohenaaQFnExactRepairPlanx5
namespace Go.Proofs.Yteflpfkfmohenaa.QFnExactRepairPlan
open Go.RowKit Go.Proofs.YteflpfkfmohenaaW.PrintWords Go.Proofs.YteflpfkfmohenaaW.PrintLast Go.Proofs.YteflpfkfmohenaaW.PrintMore
attribute [local go_sem] max2_int min2_int max_two min_two max_three min_three max_four min_four   -- for this text's walks alone
set_option linter.unusedVariables false
set_option linter.unusedSimpArgs false

/-! ### spec_l04Take: function 16 -/
mutual
def spec_l04Take.l0 : Nat → List Bool → List Int → List Int → Int → Int → Int → Int → Option (List Int)
  | 0, _, _, _, _, _, _, _ => none
  | k + 1, x1, x5, x6, x7, x161000, x161001, x161002 => if x7 < (x1.length : Int) then (spec_l04Take.j1 k x1 x5 x6 x7 (decide ((x5.length : Int) < x161000)) x161000 x161001 x161002) else (spec_l04Take.j1 k x1 x5 x6 x7 false x161000 x161001 x161002)
def spec_l04Take.j1 : Nat → List Bool → List Int → List Int → Int → Bool → Int → Int → Int → Option (List Int)
  | 0, _, _, _, _, _, _, _, _ => none
  | k + 1, x1, x5, x6, x7, x22, x161000, x161001, x161002 => if x22 = true then (if 0 ≤ x7 then (if x7 < (x1.length : Int) then (if rdOf false x1 x7 = true then ((some (([] : List Int) : List Int)).bind fun y171 => (if y171.length + x6.length < 17592186044416 then ((some (y171 ++ x6 : List Int)).bind fun y174 => ((spec_CodeRow.f k x161000 x161001 x161002 x7).bind fun t177 => (if y174.length + t177.length < 17592186044416 then ((some (y174 ++ t177 : List Int)).bind fun y180 => ((spec_l03Rank.f k (wrap64 ((x5.length : Int) + 1)) x161000 y180).bind fun t184 => (if t184 = (wrap64 ((x5.length : Int) + 1)) then (if x5.length < 17592186044416 then (spec_l04Take.l0 k x1 (x5 ++ [x7]) y180 (wrap64 (x7 + 1)) x161000 x161001 x161002) else (none)) else (spec_l04Take.l0 k x1 x5 x6 (wrap64 (x7 + 1)) x161000 x161001 x161002)))) else (none)))) else (none))) else (spec_l04Take.l0 k x1 x5 x6 (wrap64 (x7 + 1)) x161000 x161001 x161002)) else (none)) else (none)) else (if (x5.length : Int) < x161000 then (some (([] : List Int))) else (some x5))
end
def spec_l04Take.f (k : Nat) (a0_0 : Int) (a0_1 : Int) (a0_2 : Int) (l1 : List Bool) : Option (List Int) := spec_l04Take.l0 k l1 (([] : List Int)) (([] : List Int)) 0 a0_0 a0_1 a0_2
theorem spec_l04Take.mono_l : ∀ k, (∀ y0 y1 y2 y3 y4 y5 y6, LeO (spec_l04Take.l0 k y0 y1 y2 y3 y4 y5 y6) (spec_l04Take.l0 (k + 1) y0 y1 y2 y3 y4 y5 y6)) ∧ (∀ y0 y1 y2 y3 y4 y5 y6 y7, LeO (spec_l04Take.j1 k y0 y1 y2 y3 y4 y5 y6 y7) (spec_l04Take.j1 (k + 1) y0 y1 y2 y3 y4 y5 y6 y7))
  | 0 => ⟨fun _ _ _ _ _ _ _ r h => by simp [spec_l04Take.l0] at h, fun _ _ _ _ _ _ _ _ r h => by simp [spec_l04Take.j1] at h⟩
  | k + 1 => by
    obtain ⟨ih0, ih1⟩ := spec_l04Take.mono_l k
    refine ⟨?_, ?_⟩
    · intro y0 y1 y2 y3 y4 y5 y6
      unfold spec_l04Take.l0
      repeat' first
      | (with_reducible exact ih0 _ _ _ _ _ _ _)
      | (with_reducible exact ih1 _ _ _ _ _ _ _ _)
      | (with_reducible exact spec_CodeRow.mono _ _ _ _ _)
      | (with_reducible exact spec_l03Rank.mono _ _ _ _)
      | (with_reducible exact LeO.refl _)
      | (with_reducible exact LeO.none _)
      | (with_reducible refine LeO.ite ?_ ?_)
      | (with_reducible refine LeO.bind ?_ (fun _ => ?_))
      | exact ih0 _ _ _ _ _ _ _
      | exact ih1 _ _ _ _ _ _ _ _
      | exact spec_CodeRow.mono _ _ _ _ _
      | exact spec_l03Rank.mono _ _ _ _
      | exact LeO.none _
      | refine LeO.ite ?_ ?_
      | refine LeO.bind ?_ (fun _ => ?_)
    · intro y0 y1 y2 y3 y4 y5 y6 y7
      unfold spec_l04Take.j1
      repeat' first
      | (with_reducible exact ih0 _ _ _ _ _ _ _)
      | (with_reducible exact ih1 _ _ _ _ _ _ _ _)
      | (with_reducible exact spec_CodeRow.mono _ _ _ _ _)
      | (with_reducible exact spec_l03Rank.mono _ _ _ _)
      | (with_reducible exact LeO.refl _)
      | (with_reducible exact LeO.none _)
      | (with_reducible refine LeO.ite ?_ ?_)
      | (with_reducible refine LeO.bind ?_ (fun _ => ?_))
      | exact ih0 _ _ _ _ _ _ _
      | exact ih1 _ _ _ _ _ _ _ _
      | exact spec_CodeRow.mono _ _ _ _ _
      | exact spec_l03Rank.mono _ _ _ _
      | exact LeO.none _
      | refine LeO.ite ?_ ?_
      | refine LeO.bind ?_ (fun _ => ?_)
theorem spec_l04Take.mono : ∀ a0 a1 a2 a3 k, LeO (spec_l04Take.f k a0 a1 a2 a3) (spec_l04Take.f (k + 1) a0 a1 a2 a3) := by
  intro a0 a1 a2 a3 k
  obtain ⟨ih0, ih1⟩ := spec_l04Take.mono_l k
  unfold spec_l04Take.f
  repeat' first
      | (with_reducible exact ih0 _ _ _ _ _ _ _)
      | (with_reducible exact ih1 _ _ _ _ _ _ _ _)
      | (with_reducible exact spec_CodeRow.mono _ _ _ _ _)
      | (with_reducible exact spec_l03Rank.mono _ _ _ _)
      | (with_reducible exact LeO.refl _)
      | (with_reducible exact LeO.none _)
      | (with_reducible refine LeO.ite ?_ ?_)
      | (with_reducible refine LeO.bind ?_ (fun _ => ?_))
      | exact ih0 _ _ _ _ _ _ _
      | exact ih1 _ _ _ _ _ _ _ _
      | exact spec_CodeRow.mono _ _ _ _ _
      | exact spec_l03Rank.mono _ _ _ _
      | exact LeO.none _
      | refine LeO.ite ?_ ?_
      | refine LeO.bind ?_ (fun _ => ?_)
def spec_l04Take.T7 : Bool × List (List Nat × List Nat) := (true, [([], []), ([], []), ([0, 1], [0, 1]), ([], []), ([], []), ([3, 4, 2], [3, 4]), ([2, 5, 5], [2, 5]), ([6, 6, 0, 1, 2, 3, 4, 5, 6], [6])])
def spec_l04Take.B7 : List Nat := [0, 0, 3, 0, 0, 31, 63, 127]
theorem spec_l04Take.tab7 : rtab .any (opsOf Try.f16 7) = spec_l04Take.T7 := by kernel_rfl
theorem spec_l04Take.bits7 : waitsOk spec_l04Take.T7.2 spec_l04Take.B7 = true := by kernel_rfl
set_option maxHeartbeats 8000000 in
set_option maxRecDepth 100000 in
theorem spec_l04Take.calls (k : Nat) (a0_0 : Int) (a0_1 : Int) (a0_2 : Int) (A1 : Option Addr) (c1 : Nat) (l1 : List Bool) (r : List Int) (w : World) (hr1 : Kd.C Kd.bool w A1 l1.length l1) (hc1 : l1.length ≤ c1) (h : spec_l04Take.f k a0_0 a0_1 a0_2 l1 = some r) :
  Calls Try.prog 16 #[.agg #[.int .i64 a0_0, .int .i64 a0_1, .int .i64 a0_2], .slice A1 l1.length c1] w fun e w' => ∃ v0_ : Value, e = .returned (v0_) ∧ Kd.R (Kd.int .i64) 2 w' w.heap.size (fun _ => True) v0_ r ∧ Below w.heap.size w w' := by
 have hu29 := Try.underlying29
 have hu48 := Try.underlying48
 have HR1 := Aside0.mk hr1
 have HC1 := Aside0.mk hc1
 clear hr1 hc1
 have HB := Aside0.mk (Below.refl w.heap.size w)
 have H : (spec_l04Take.l0 k l1 (([] : List Int)) (([] : List Int)) 0 a0_0 a0_1 a0_2) = some r := h
 clear h
 obtain ⟨y161, hy161⟩ : ∃ y_ : List Int, y_ = (([] : List Int)) := ⟨_, rfl⟩
 replace H : (spec_l04Take.l0 k l1 y161 (([] : List Int)) 0 a0_0 a0_1 a0_2) = some r := by first | (rw [hy161]; with_reducible exact H) | (have H2_ := (Option.bind_some _ _).symm.trans H; rw [hy161]; with_reducible exact H2_) | (have H2_ := (Option.bind_some _ _).symm.trans H; with_reducible exact H2_) | with_reducible exact H | (rw [hy161]; exact H) | exact H
 have Ny161 := Aside0.mk hy161
 clear hy161
 obtain ⟨y164, hy164⟩ : ∃ y_ : List Int, y_ = (([] : List Int)) := ⟨_, rfl⟩
 replace H : (spec_l04Take.l0 k l1 y161 y164 0 a0_0 a0_1 a0_2) = some r := by first | (rw [hy164]; with_reducible exact H) | (have H2_ := (Option.bind_some _ _).symm.trans H; rw [hy164]; with_reducible exact H2_) | (have H2_ := (Option.bind_some _ _).symm.trans H; with_reducible exact H2_) | with_reducible exact H | (rw [hy164]; exact H) | exact H
 have Ny164 := Aside0.mk hy164
 clear hy164
 have H' := Aside0.mk H
 clear H
 go_enter Try.func16, Try.ntmps16
 go_wp2_with (first | ((with_reducible refine gate_dst (N := 2) rfl ?_); (try (refine gate_guard (by rfl) ?_; dsimp only)); refine box_event ?hg (N := 2) ?hd (cs := #[.int .i64 a0_0, .int .i64 a0_1, .int .i64 a0_2]) (t := 29) ?hr ?_; (case hd => rfl); (case hg => rfl); (case hr => first | (go_simp; done) | (go_simp; rfl)); intro gb160 hg w3 hbox hb; have n0_ := Aside0.mk (below_step (by first | exact Grow.bl HB.out | exact HB.out) hb); have n1_ := Aside0.mk (hbox); have n2_ := Aside0.mk ((by rw [hg]; exact (below_size (by first | exact Grow.bl HB.out | exact HB.out)) : w.heap.size ≤ gb160)); have n3_ := Aside0.mk ((by rw [hg]; exact (below_size (by first | exact Grow.bl HB.out | exact HB.out)) : w.heap.size ≤ gb160)); clear HB; have HB := n0_; have BK160 := n1_; have GW160 := n2_; have GE160 := n3_; clear n0_ n1_ n2_ n3_; clear hb hbox hg) | ((with_reducible refine gate_dst (N := 10) rfl ?_); (try (refine gate_guard (by rfl) ?_; dsimp only)); refine Kd.R_lit (Kd.int .i64) _ 2 ?hg (N := 10) ?hd (xs := ([] : List Int)) (inner := []) (ok := fun _ => True) (okp := fun _ => True) ?hr ?hp (fun _ hk => hk) trivial (Below.refl _ _) (Nat.le_refl _) (by simp) ?_; (case hd => rfl); (case hg => rfl); (case hr => first | (go_simp; done) | (go_simp; rfl)); (case hp => exact (Reps.none _ _)); intro v162 w4 ho5 hb hg_ hnew_; clear hg_ hnew_; (first | rw [← Ny161.out] at ho5 | (simp only [Int.reduceToNat] at ho5; rw [← Ny161.out] at ho5)); have n0_ := Aside0.mk (Kd.R_lower ho5 (below_size (by repeat (first | (with_reducible first | exact HB.out | apply below_alloc | apply pw_below_drewN | apply below_drew1 | refine below_set ?_ GE160.out) | exact HB.out)))); have n1_ := Aside0.mk (blk_below (g := gb160) (o := .cells #[.int .i64 a0_0, .int .i64 a0_1, .int .i64 a0_2] 29 (0, 0)) (by first | exact Grow.bk BK160.out | exact BK160.out) hb); have n2_ := Aside0.mk (below_step (by repeat (first | (with_reducible first | exact HB.out | apply below_alloc | apply pw_below_drewN | apply below_drew1 | refine below_set ?_ GE160.out) | exact HB.out)) hb); clear BK160; clear HB; have HO163 := n0_; have BK160 := n1_; have HB := n2_; clear n0_ n1_ n2_; clear hb ho5) | ((with_reducible refine gate_dst (N := 11) rfl ?_); (try (refine gate_guard (by rfl) ?_; dsimp only)); refine Kd.R_lit (Kd.int .i64) _ 2 ?hg (N := 11) ?hd (xs := ([] : List Int)) (inner := []) (ok := fun _ => True) (okp := fun _ => True) ?hr ?hp (fun _ hk => hk) trivial (Below.refl _ _) (Nat.le_refl _) (by simp) ?_; (case hd => rfl); (case hg => rfl); (case hr => first | (go_simp; done) | (go_simp; rfl)); (case hp => exact (Reps.none _ _)); intro v165 w6 ho7 hb hg_ hnew_; clear hg_ hnew_; (first | rw [← Ny164.out] at ho7 | (simp only [Int.reduceToNat] at ho7; rw [← Ny164.out] at ho7)); have n0_ := Aside0.mk (Kd.R_elder' (by first | exact Grow.rg HO163.out | exact HO163.out) (Kd.R_base ho7) hb); have n1_ := Aside0.mk (Kd.R_lower (Kd.R_new' ho7 (Kd.R_lt (by first | exact Grow.rg HO163.out | exact HO163.out))) (below_size (by repeat (first | (with_reducible first | exact HB.out | apply below_alloc | apply pw_below_drewN | apply below_drew1 | refine below_set ?_ GE160.out) | exact HB.out)))); have n2_ := Aside0.mk (blk_below (g := gb160) (o := .cells #[.int .i64 a0_0, .int .i64 a0_1, .int .i64 a0_2] 29 (0, 0)) (by first | exact Grow.bk BK160.out | exact BK160.out) hb); have n3_ := Aside0.mk (below_step (by repeat (first | (with_reducible first | exact HB.out | apply below_alloc | apply pw_below_drewN | apply below_drew1 | refine below_set ?_ GE160.out) | exact HB.out)) hb); clear HO163; clear BK160; clear HB; have HO163 := n0_; have HO166 := n1_; have BK160 := n2_; have HB := n3_; clear n0_ n1_ n2_ n3_; clear hb ho7))
 go_loopg [5, 6, 7] k (fun kq v5 v6 v7 w' => ∃ (x5_1 : List Int) (x6_1 : List Int) (x7_1 : Int), v7 = .int .i64 x7_1 ∧ Aside0 (spec_l04Take.l0 kq l1 x5_1 x6_1 x7_1 a0_0 a0_1 a0_2 = some r) ∧ Aside0 (kq ≤ k) ∧ Aside0 (Kd.R (Kd.int .i64) 2 w' w.heap.size (fun k_ => some k_ ≠ (v6 : Value).ownBlock) v5 x5_1) ∧ Aside0 (Kd.R (Kd.int .i64) 2 w' w.heap.size (fun k_ => some k_ ≠ (v5 : Value).ownBlock) v6 x6_1) ∧ Aside0 (w'.heap[gb160]? = some (.cells #[.int .i64 a0_0, .int .i64 a0_1, .int .i64 a0_2] 29 (0, 0))) ∧ Aside0 (Below w.heap.size w w'))
 case atStart => exact ⟨(y161), (y164), (0), (by first | rfl | (simp; done) | (simp [*]; done)), H', ⟨Nat.le_refl _⟩, ⟨by (with_reducible repeat (first | apply Kd.R_alloc | apply Kd.R_drewN | apply Kd.R_drew)); exact Kd.R_mono HO163.out (fun _ hk => hk.2)⟩, ⟨by (with_reducible repeat (first | apply Kd.R_alloc | apply Kd.R_drewN | apply Kd.R_drew)); exact Kd.R_mono HO166.out (fun _ hk => hk.2)⟩, ⟨by first | exact Grow.bk BK160.out | exact BK160.out⟩, ⟨by repeat (first | (with_reducible first | exact HB.out | apply below_alloc | apply pw_below_drewN | apply below_drew1 | refine below_set ?_ GE160.out) | exact HB.out)⟩⟩
 case round =>
  clear H'
  try clear c1
  try clear p2
  obtain ⟨x5_1, x6_1, x7_1, rfl, HA, HK1, HO_5, HO_6, BK160, HB⟩ := hrel
  cases gk with
  | zero => exact absurd HA.out (by simp [spec_l04Take.l0])
  | succ k1 =>
   have H := HA.out
   clear HA
   simp only [spec_l04Take.l0] at H
   have HC8 := Aside0.mk H
   clear H
   go_upto_region 4 with (fail)
   go_cut [22] (fun v22 wc => ∃ (kq : Nat) (x22_7 : Bool), v22 = .bool x22_7 ∧ Aside0 (spec_l04Take.j1 kq l1 x5_1 x6_1 x7_1 x22_7 a0_0 a0_1 a0_2 = some r) ∧ Aside0 (kq ≤ k1) ∧ Aside0 (Kd.R (Kd.int .i64) 2 wc w.heap.size (fun k_ => some k_ ≠ (u6 : Value).ownBlock) u5 x5_1) ∧ Aside0 (Kd.R (Kd.int .i64) 2 wc w.heap.size (fun k_ => some k_ ≠ (u5 : Value).ownBlock) u6 x6_1) ∧ Aside0 (wc.heap[gb160]? = some (.cells #[.int .i64 a0_0, .int .i64 a0_1, .int .i64 a0_2] 29 (0, 0))) ∧ Aside0 (Below w.heap.size w wc))
   case first =>
    have H := HC8.out
    clear HC8
    by_cases c9 : x7_1 < (l1.length : Int)
    rotate_left
    ·
     rw [if_neg c9] at H
     have c9b0 : decide (x7_1 < (l1.length : Int)) = false := decide_eq_false c9
     clear c9
     (first | rw [c9b0] | (simp only [i64_w, i32_w]; rw [c9b0]) | skip)
     have H' := Aside0.mk H
     clear H
     go_wp2
     go_meet
     case rel => exact ⟨_, (false), (by first | rfl | (simp; done) | (simp [*]; done)), H', ⟨by have := HK1.out; first | omega | exact Nat.le_refl _⟩, ⟨by first | exact Grow.rg HO_5.out | exact HO_5.out⟩, ⟨by first | exact Grow.rg HO_6.out | exact HO_6.out⟩, ⟨by first | exact Grow.bk BK160.out | exact BK160.out⟩, ⟨by repeat (first | (with_reducible first | exact HB.out | apply below_alloc | apply pw_below_drewN | apply below_drew1 | refine below_set ?_ GE160.out) | exact HB.out)⟩⟩
    rw [if_pos c9] at H
    have c9b0 : decide (x7_1 < (l1.length : Int)) = true := decide_eq_true c9
    clear c9
    (first | rw [c9b0] | (simp only [i64_w, i32_w]; rw [c9b0]) | skip)
    have H' := Aside0.mk H
    clear H
    obtain ⟨Ao10, co10, eo10⟩ := Kd.R_slice HO_5.out
    subst eo10
    have hcz11_0 : wr.cell? ⟨gb160, 0, none⟩ = some (.int .i64 a0_0) := (blk_cell BK160.out 0).trans rfl
    have hcz11_1 : wr.cell? ⟨gb160, 1, none⟩ = some (.int .i64 a0_1) := (blk_cell BK160.out 1).trans rfl
    have hcz11_2 : wr.cell? ⟨gb160, 2, none⟩ = some (.int .i64 a0_2) := (blk_cell BK160.out 2).trans rfl
    have hfz11_0 := blk_frozen BK160.out 0
    have hfz11_1 := blk_frozen BK160.out 1
    have hfz11_2 := blk_frozen BK160.out 2
    go_wp2
    go_meet
    case rel => exact ⟨_, (decide ((x5_1.length : Int) < a0_0)), (by first | rfl | (simp; done) | (simp [*]; done)), H', ⟨by have := HK1.out; first | omega | exact Nat.le_refl _⟩, ⟨by first | exact Grow.rg HO_5.out | exact HO_5.out⟩, ⟨by first | exact Grow.rg HO_6.out | exact HO_6.out⟩, ⟨by first | exact Grow.bk BK160.out | exact BK160.out⟩, ⟨by repeat (first | (with_reducible first | exact HB.out | apply below_alloc | apply pw_below_drewN | apply below_drew1 | refine below_set ?_ GE160.out) | exact HB.out)⟩⟩
   case rest =>
    clear HC8
    try clear c1
    try clear p2
    try clear c9
    try clear c9b0
    try clear hcz11_0
    try clear hcz11_1
    try clear hcz11_2
    try clear hfz11_0
    try clear hfz11_1
    try clear hfz11_2
    try clear p2
    obtain ⟨kq, x22_7, rfl, HA, HJ7, HO_5, HO_6, BK160, HB⟩ := hcut
    cases kq with
    | zero => exact absurd HA.out (by simp [spec_l04Take.j1])
    | succ kj7 =>
     have H := HA.out
     clear HA
     simp only [spec_l04Take.j1] at H
     by_cases c12 : x22_7 = true
     rotate_left
     ·
      replace c12 := Bool.eq_false_iff.mpr c12
      subst c12
      have H1 : (if (x5_1.length : Int) < a0_0 then (some (([] : List Int))) else (some x5_1)) = some r := by rw [if_neg (show ¬ (false = true) by decide)] at H; exact H
      clear H
      have H := H1
      clear H1
      by_cases c58 : (x5_1.length : Int) < a0_0
      rotate_left
      ·
       rw [if_neg c58] at H
       have c58b0 : decide ((x5_1.length : Int) < a0_0) = false := decide_eq_false c58
       clear c58
       obtain rfl := Option.some.inj H
       obtain ⟨Ao63, co63, eo63⟩ := Kd.R_slice HO_5.out
       subst eo63
       have hcz64_0 : wc.cell? ⟨gb160, 0, none⟩ = some (.int .i64 a0_0) := (blk_cell BK160.out 0).trans rfl
       have hcz64_1 : wc.cell? ⟨gb160, 1, none⟩ = some (.int .i64 a0_1) := (blk_cell BK160.out 1).trans rfl
       have hcz64_2 : wc.cell? ⟨gb160, 2, none⟩ = some (.int .i64 a0_2) := (blk_cell BK160.out 2).trans rfl
       have hfz64_0 := blk_frozen BK160.out 0
       have hfz64_1 := blk_frozen BK160.out 1
       have hfz64_2 := blk_frozen BK160.out 2
       go_wp2
       go_ret
       exact ⟨_, by first | rfl | (simp [errW_none, errW_some] <;> rfl) | (simp [*, errW_none, errW_some] <;> rfl), by (with_reducible repeat (first | apply Kd.R_alloc | apply Kd.R_drewN | apply Kd.R_drew)); exact Kd.R_mono HO_5.out (fun _ hk => trivial), by repeat (first | (with_reducible first | exact HB.out | apply below_alloc | apply pw_below_drewN | apply below_drew1 | refine below_set ?_ GE160.out) | exact HB.out)⟩
      rw [if_pos c58] at H
      have c58b0 : decide ((x5_1.length : Int) < a0_0) = true := decide_eq_true c58
      clear c58
      obtain ⟨y167, hy167⟩ : ∃ y_ : List Int, y_ = (([] : List Int)) := ⟨_, rfl⟩
      replace H : (some y167) = some r := by first | (rw [hy167]; with_reducible exact H) | (have H2_ := (Option.bind_some _ _).symm.trans H; rw [hy167]; with_reducible exact H2_) | (have H2_ := (Option.bind_some _ _).symm.trans H; with_reducible exact H2_) | with_reducible exact H | (rw [hy167]; exact H) | exact H
      have Ny167 := Aside0.mk hy167
      clear hy167
      obtain rfl := Option.some.inj H
      obtain ⟨Ao59, co59, eo59⟩ := Kd.R_slice HO_5.out
      subst eo59
      have hcz60_0 : wc.cell? ⟨gb160, 0, none⟩ = some (.int .i64 a0_0) := (blk_cell BK160.out 0).trans rfl
      have hcz60_1 : wc.cell? ⟨gb160, 1, none⟩ = some (.int .i64 a0_1) := (blk_cell BK160.out 1).trans rfl
      have hcz60_2 : wc.cell? ⟨gb160, 2, none⟩ = some (.int .i64 a0_2) := (blk_cell BK160.out 2).trans rfl
      have hfz60_0 := blk_frozen BK160.out 0
      have hfz60_1 := blk_frozen BK160.out 1
      have hfz60_2 := blk_frozen BK160.out 2
      go_wp2_with (first | ((with_reducible refine gate_dst (N := 59) rfl ?_); (try (refine gate_guard (by rfl) ?_; dsimp only)); refine Kd.R_lit (Kd.int .i64) _ 2 ?hg (N := 59) ?hd (xs := ([] : List Int)) (inner := []) (ok := fun _ => True) (okp := fun _ => True) ?hr ?hp (fun _ hk => hk) trivial (Below.refl _ _) (Nat.le_refl _) (by simp) ?_; (case hd => rfl); (case hg => rfl); (case hr => first | (go_simp; done) | (go_simp; rfl)); (case hp => exact (Reps.none _ _)); intro v168 w61 ho62 hb hg_ hnew_; clear hg_ hnew_; (first | rw [← Ny167.out] at ho62 | (simp only [Int.reduceToNat] at ho62; rw [← Ny167.out] at ho62)); have n0_ := Aside0.mk (Kd.R_elder' (by first | exact Grow.rg HO_5.out | exact HO_5.out) (Kd.R_base ho62) hb); have n1_ := Aside0.mk (Kd.R_elder' (by first | exact Grow.rg HO_6.out | exact HO_6.out) (Kd.R_base ho62) hb); have n2_ := Aside0.mk (Kd.R_lower (Kd.R_new' (Kd.R_new' ho62 (Kd.R_lt (by first | exact Grow.rg HO_5.out | exact HO_5.out))) (Kd.R_lt (by first | exact Grow.rg HO_6.out | exact HO_6.out))) (below_size (by repeat (first | (with_reducible first | exact HB.out | apply below_alloc | apply pw_below_drewN | apply below_drew1 | refine below_set ?_ GE160.out) | exact HB.out)))); have n3_ := Aside0.mk (blk_below (g := gb160) (o := .cells #[.int .i64 a0_0, .int .i64 a0_1, .int .i64 a0_2] 29 (0, 0)) (by first | exact Grow.bk BK160.out | exact BK160.out) hb); have n4_ := Aside0.mk (below_step (by repeat (first | (with_reducible first | exact HB.out | apply below_alloc | apply pw_below_drewN | apply below_drew1 | refine below_set ?_ GE160.out) | exact HB.out)) hb); clear HO_5; clear HO_6; clear BK160; clear HB; have HO_5 := n0_; have HO_6 := n1_; have HO169 := n2_; have BK160 := n3_; have HB := n4_; clear n0_ n1_ n2_ n3_ n4_; clear hb ho62))
      go_ret
      exact ⟨_, by first | rfl | (simp [errW_none, errW_some] <;> rfl) | (simp [*, errW_none, errW_some] <;> rfl), by (with_reducible repeat (first | apply Kd.R_alloc | apply Kd.R_drewN | apply Kd.R_drew)); exact Kd.R_mono HO169.out (fun _ hk => trivial), by repeat (first | (with_reducible first | exact HB.out | apply below_alloc | apply pw_below_drewN | apply below_drew1 | refine below_set ?_ GE160.out) | exact HB.out)⟩
     subst c12
     have H1 : (if 0 ≤ x7_1 then (if x7_1 < (l1.length : Int) then (if rdOf false l1 x7_1 = true then ((some (([] : List Int) : List Int)).bind fun y171 => (if y171.length + x6_1.length < 17592186044416 then ((some (y171 ++ x6_1 : List Int)).bind fun y174 => ((spec_CodeRow.f kj7 a0_0 a0_1 a0_2 x7_1).bind fun t177 => (if y174.length + t177.length < 17592186044416 then ((some (y174 ++ t177 : List Int)).bind fun y180 => ((spec_l03Rank.f kj7 (wrap64 ((x5_1.length : Int) + 1)) a0_0 y180).bind fun t184 => (if t184 = (wrap64 ((x5_1.length : Int) + 1)) then (if x5_1.length < 17592186044416 then (spec_l04Take.l0 kj7 l1 (x5_1 ++ [x7_1]) y180 (wrap64 (x7_1 + 1)) a0_0 a0_1 a0_2) else (none)) else (spec_l04Take.l0 kj7 l1 x5_1 x6_1 (wrap64 (x7_1 + 1)) a0_0 a0_1 a0_2)))) else (none)))) else (none))) else (spec_l04Take.l0 kj7 l1 x5_1 x6_1 (wrap64 (x7_1 + 1)) a0_0 a0_1 a0_2)) else (none)) else (none)) = some r := by rw [if_pos rfl] at H; exact H
     clear H
     have H := H1
     clear H1
     by_cases c13 : 0 ≤ x7_1
     rotate_left
     ·
      rw [if_neg c13] at H
      exact absurd H (by simp)
     rw [if_pos c13] at H
     have c13b0 : decide (0 ≤ x7_1) = true := decide_eq_true c13
     clear c13
     by_cases c14 : x7_1 < (l1.length : Int)
     rotate_left
     ·
      rw [if_neg c14] at H
      exact absurd H (by simp)
     rw [if_pos c14] at H
     have c14b0 : decide (x7_1 < (l1.length : Int)) = true := decide_eq_true c14
     clear c14
     obtain ⟨bq15, hbq15⟩ : ∃ b_ : Bool, b_ = (rdOf false l1 x7_1) := ⟨_, rfl⟩
     replace H : (if bq15 = true then ((some (([] : List Int) : List Int)).bind fun y171 => (if y171.length + x6_1.length < 17592186044416 then ((some (y171 ++ x6_1 : List Int)).bind fun y174 => ((spec_CodeRow.f kj7 a0_0 a0_1 a0_2 x7_1).bind fun t177 => (if y174.length + t177.length < 17592186044416 then ((some (y174 ++ t177 : List Int)).bind fun y180 => ((spec_l03Rank.f kj7 (wrap64 ((x5_1.length : Int) + 1)) a0_0 y180).bind fun t184 => (if t184 = (wrap64 ((x5_1.length : Int) + 1)) then (if x5_1.length < 17592186044416 then (spec_l04Take.l0 kj7 l1 (x5_1 ++ [x7_1]) y180 (wrap64 (x7_1 + 1)) a0_0 a0_1 a0_2) else (none)) else (spec_l04Take.l0 kj7 l1 x5_1 x6_1 (wrap64 (x7_1 + 1)) a0_0 a0_1 a0_2)))) else (none)))) else (none))) else (spec_l04Take.l0 kj7 l1 x5_1 x6_1 (wrap64 (x7_1 + 1)) a0_0 a0_1 a0_2)) = some r := by rw [← hbq15] at H; exact H
     have Nbq15 := Aside0.mk hbq15
     clear hbq15
     by_cases c16 : bq15 = true
     rotate_left
     ·
      replace c16 := Bool.eq_false_iff.mpr c16
      subst c16
      have H1 : (spec_l04Take.l0 kj7 l1 x5_1 x6_1 (wrap64 (x7_1 + 1)) a0_0 a0_1 a0_2) = some r := by rw [if_neg (show ¬ (false = true) by decide)] at H; exact H
      clear H
      have H := H1
      clear H1
      have H' := Aside0.mk H
      clear H
      have p170 : 0 ≤ (x7_1 : Int) := of_decide_eq_true (by first | (with_reducible assumption) | assumption)
      have q170 : x7_1 < (l1.length : Int) := of_decide_eq_true (by first | (with_reducible assumption) | assumption)
      obtain ⟨ad170, e170, hx170_0⟩ := Kd.at_bool HR1.out x7_1 p170 q170
      (try rw [← Nbq15.out] at hx170_0)
      cases e170
      replace hx170_0 := Grow.bc HB.out hx170_0
      replace p170 := eq_true p170
      replace q170 := eq_true q170
      go_wp2
      go_roundg kj7
      case measure => have := HK1.out; have := HJ7.out; omega
      case rel => exact ⟨(x5_1), (x6_1), (wrap64 (x7_1 + 1)), (by first | rfl | (simp; done) | (simp [*]; done)), H', ⟨by have := HK1.out; have := HJ7.out; omega⟩, ⟨by first | exact Grow.rg HO_5.out | exact HO_5.out⟩, ⟨by first | exact Grow.rg HO_6.out | exact HO_6.out⟩, ⟨by first | exact Grow.bk BK160.out | exact BK160.out⟩, ⟨by repeat (first | (with_reducible first | exact HB.out | apply below_alloc | apply pw_below_drewN | apply below_drew1 | refine below_set ?_ GE160.out) | exact HB.out)⟩⟩
     subst c16
     have H1 : ((some (([] : List Int) : List Int)).bind fun y171 => (if y171.length + x6_1.length < 17592186044416 then ((some (y171 ++ x6_1 : List Int)).bind fun y174 => ((spec_CodeRow.f kj7 a0_0 a0_1 a0_2 x7_1).bind fun t177 => (if y174.length + t177.length < 17592186044416 then ((some (y174 ++ t177 : List Int)).bind fun y180 => ((spec_l03Rank.f kj7 (wrap64 ((x5_1.length : Int) + 1)) a0_0 y180).bind fun t184 => (if t184 = (wrap64 ((x5_1.length : Int) + 1)) then (if x5_1.length < 17592186044416 then (spec_l04Take.l0 kj7 l1 (x5_1 ++ [x7_1]) y180 (wrap64 (x7_1 + 1)) a0_0 a0_1 a0_2) else (none)) else (spec_l04Take.l0 kj7 l1 x5_1 x6_1 (wrap64 (x7_1 + 1)) a0_0 a0_1 a0_2)))) else (none)))) else (none))) = some r := by rw [if_pos rfl] at H; exact H
     clear H
     have H := H1
     clear H1
     obtain ⟨y171, hy171⟩ : ∃ y_ : List Int, y_ = (([] : List Int)) := ⟨_, rfl⟩
     replace H : (if y171.length + x6_1.length < 17592186044416 then ((some (y171 ++ x6_1 : List Int)).bind fun y174 => ((spec_CodeRow.f kj7 a0_0 a0_1 a0_2 x7_1).bind fun t177 => (if y174.length + t177.length < 17592186044416 then ((some (y174 ++ t177 : List Int)).bind fun y180 => ((spec_l03Rank.f kj7 (wrap64 ((x5_1.length : Int) + 1)) a0_0 y180).bind fun t184 => (if t184 = (wrap64 ((x5_1.length : Int) + 1)) then (if x5_1.length < 17592186044416 then (spec_l04Take.l0 kj7 l1 (x5_1 ++ [x7_1]) y180 (wrap64 (x7_1 + 1)) a0_0 a0_1 a0_2) else (none)) else (spec_l04Take.l0 kj7 l1 x5_1 x6_1 (wrap64 (x7_1 + 1)) a0_0 a0_1 a0_2)))) else (none)))) else (none)) = some r := by first | (rw [hy171]; with_reducible exact H) | (have H2_ := (Option.bind_some _ _).symm.trans H; rw [hy171]; with_reducible exact H2_) | (have H2_ := (Option.bind_some _ _).symm.trans H; with_reducible exact H2_) | with_reducible exact H | (rw [hy171]; exact H) | exact H
     have Ny171 := Aside0.mk hy171
     clear hy171
     by_cases c17 : y171.length + x6_1.length < 17592186044416
     rotate_left
     ·
      rw [if_neg c17] at H
      exact absurd H (by simp)
     rw [if_pos c17] at H
     have LMc17 := Aside0.mk c17
     clear c17
     obtain ⟨y174, hy174⟩ : ∃ y_ : List Int, y_ = (y171 ++ x6_1) := ⟨_, rfl⟩
     replace H : ((spec_CodeRow.f kj7 a0_0 a0_1 a0_2 x7_1).bind fun t177 => (if y174.length + t177.length < 17592186044416 then ((some (y174 ++ t177 : List Int)).bind fun y180 => ((spec_l03Rank.f kj7 (wrap64 ((x5_1.length : Int) + 1)) a0_0 y180).bind fun t184 => (if t184 = (wrap64 ((x5_1.length : Int) + 1)) then (if x5_1.length < 17592186044416 then (spec_l04Take.l0 kj7 l1 (x5_1 ++ [x7_1]) y180 (wrap64 (x7_1 + 1)) a0_0 a0_1 a0_2) else (none)) else (spec_l04Take.l0 kj7 l1 x5_1 x6_1 (wrap64 (x7_1 + 1)) a0_0 a0_1 a0_2)))) else (none))) = some r := by first | (rw [hy174]; with_reducible exact H) | (have H2_ := (Option.bind_some _ _).symm.trans H; rw [hy174]; with_reducible exact H2_) | (have H2_ := (Option.bind_some _ _).symm.trans H; with_reducible exact H2_) | with_reducible exact H | (rw [hy174]; exact H) | exact H
     have Ny174 := Aside0.mk hy174
     clear hy174
     replace H := Option.bind_eq_some_iff.mp H
     obtain ⟨t177, A180, H⟩ := H
     replace H : (if y174.length + t177.length < 17592186044416 then ((some (y174 ++ t177 : List Int)).bind fun y180 => ((spec_l03Rank.f kj7 (wrap64 ((x5_1.length : Int) + 1)) a0_0 y180).bind fun t184 => (if t184 = (wrap64 ((x5_1.length : Int) + 1)) then (if x5_1.length < 17592186044416 then (spec_l04Take.l0 kj7 l1 (x5_1 ++ [x7_1]) y180 (wrap64 (x7_1 + 1)) a0_0 a0_1 a0_2) else (none)) else (spec_l04Take.l0 kj7 l1 x5_1 x6_1 (wrap64 (x7_1 + 1)) a0_0 a0_1 a0_2)))) else (none)) = some r := H
     have A18 := Aside0.mk A180
     clear A180
     by_cases c19 : y174.length + t177.length < 17592186044416
     rotate_left
     ·
      rw [if_neg c19] at H
      exact absurd H (by simp)
     rw [if_pos c19] at H
     have LMc19 := Aside0.mk c19
     clear c19
     obtain ⟨y180, hy180⟩ : ∃ y_ : List Int, y_ = (y174 ++ t177) := ⟨_, rfl⟩
     replace H : ((spec_l03Rank.f kj7 (wrap64 ((x5_1.length : Int) + 1)) a0_0 y180).bind fun t184 => (if t184 = (wrap64 ((x5_1.length : Int) + 1)) then (if x5_1.length < 17592186044416 then (spec_l04Take.l0 kj7 l1 (x5_1 ++ [x7_1]) y180 (wrap64 (x7_1 + 1)) a0_0 a0_1 a0_2) else (none)) else (spec_l04Take.l0 kj7 l1 x5_1 x6_1 (wrap64 (x7_1 + 1)) a0_0 a0_1 a0_2))) = some r := by first | (rw [hy180]; with_reducible exact H) | (have H2_ := (Option.bind_some _ _).symm.trans H; rw [hy180]; with_reducible exact H2_) | (have H2_ := (Option.bind_some _ _).symm.trans H; with_reducible exact H2_) | with_reducible exact H | (rw [hy180]; exact H) | exact H
     have Ny180 := Aside0.mk hy180
     clear hy180
     replace H := Option.bind_eq_some_iff.mp H
     obtain ⟨t184, A200, H⟩ := H
     replace H : (if t184 = (wrap64 ((x5_1.length : Int) + 1)) then (if x5_1.length < 17592186044416 then (spec_l04Take.l0 kj7 l1 (x5_1 ++ [x7_1]) y180 (wrap64 (x7_1 + 1)) a0_0 a0_1 a0_2) else (none)) else (spec_l04Take.l0 kj7 l1 x5_1 x6_1 (wrap64 (x7_1 + 1)) a0_0 a0_1 a0_2)) = some r := H
     have A20 := Aside0.mk A200
     clear A200
     by_cases c21 : t184 = (wrap64 ((x5_1.length : Int) + 1))
     rotate_left
     ·
      rw [if_neg c21] at H
      have c21b0 : (t184 == (wrap64 ((x5_1.length : Int) + 1))) = false := beq_eq_false_iff_ne.mpr c21
      have c21b1 : (t184 != (wrap64 ((x5_1.length : Int) + 1))) = true := bne_iff_ne.mpr c21
      have H' := Aside0.mk H
      clear H
      have p170 : 0 ≤ (x7_1 : Int) := of_decide_eq_true (by first | (with_reducible assumption) | assumption)
      have q170 : x7_1 < (l1.length : Int) := of_decide_eq_true (by first | (with_reducible assumption) | assumption)
      obtain ⟨ad170, e170, hx170_0⟩ := Kd.at_bool HR1.out x7_1 p170 q170
      (try rw [← Nbq15.out] at hx170_0)
      cases e170
      replace hx170_0 := Grow.bc HB.out hx170_0
      replace p170 := eq_true p170
      replace q170 := eq_true q170
      try go_wp2
      have n0_ := Aside0.mk (Kd.R_drew HO_5.out)
      have n1_ := Aside0.mk (Kd.R_drew HO_6.out)
      have n2_ := Aside0.mk (blk_drew BK160.out)
      have n3_ := Aside0.mk (below_drew1 HB.out)
      clear HO_5
      clear HO_6
      clear BK160
      clear HB
      have HO_5 := n0_
      have HO_6 := n1_
      have BK160 := n2_
      have HB := n3_
      clear n0_ n1_ n2_ n3_
      refine start_ (n := 8) (S := fun w' => w'.cell? ⟨gb160, 0, none⟩ = some (.int .i64 a0_0) ∧ w'.cell? ⟨gb160, 1, none⟩ = some (.int .i64 a0_1) ∧ w'.cell? ⟨gb160, 2, none⟩ = some (.int .i64 a0_2)) (ds := []) zf98 (by kernel_rfl) rfl rfl ⟨(blk_cell BK160.out 0).trans rfl, (blk_cell BK160.out 1).trans rfl, (blk_cell BK160.out 2).trans rfl⟩ (fun hHeld => ?_); refine with_tabW spec_l04Take.tab7 spec_l04Take.bits7 (fun HT_ HW_ => ?_)
      generalize wc.drew = w41 at HO_5 HO_6 BK160 HB hHeld ⊢
      refine Cap.pu (v := ?_) (a' := ?_) 1 (some 31) zf99 HT_ rfl rfl (by kernel_rfl) (fun _ _ _ h => h) (Or.inl ⟨by rfl, ?_⟩) ?_ ?_; rotate_left; intro w'; go_simp; with_reducible rfl; rotate_left; simp only [Cap.pz]; rfl
      refine Cap.pu (v := ?_) (a' := ?_) 4 (some 34) zf100 HT_ rfl rfl (by kernel_rfl) (fun _ _ _ h => h) (Or.inl ⟨by rfl, ?_⟩) ?_ ?_; rotate_left; intro w'; go_simp; with_reducible rfl; rotate_left; simp only [Cap.pz]; rfl
      refine take_ (i := 3) (N := some 33) (v := ?_) (a' := ?_) zf101 rfl rfl (take_ofW HT_.out HW_.out (by kernel_rfl)) (fun _ _ _ h => h) (Or.inl ⟨by rfl, ?_⟩) hHeld ?_ ?_; rotate_left; rintro w' ⟨s0, s1, s2⟩; go_simp; with_reducible rfl; rotate_left; simp only [Cap.pz]; rfl
      refine one_ (i := 0) (N := some 30) zf102 rfl rfl (one_of HT_.out (by kernel_rfl)) (by decide) (fun K hK => ?_)
      refine Kd.R_lit_step (Kd.int .i64) _ 2 ?hg (N := 30) ?hd (xs := ([] : List Int)) (inner := []) (ok := fun _ => True) (okp := fun _ => True) ?hr ?hp (fun _ hk => hk) trivial (Below.refl _ _) (Nat.le_refl _) (by simp) ?_; (case hd => rfl); (case hg => rfl); (case hr => first | (go_simp; done) | (go_simp; rfl)); (case hp => exact (Reps.none _ _))
      intro v172 w42 ho43 hb hg_ hnew_
      clear hg_ hnew_
      (first | rw [← Ny171.out] at ho43 | (simp only [Int.reduceToNat] at ho43; rw [← Ny171.out] at ho43))
      have n0_ := Aside0.mk (Kd.R_elder' (by first | exact Grow.rg HO_5.out | exact HO_5.out) (Kd.R_base ho43) hb)
      have n1_ := Aside0.mk (Kd.R_elder' (by first | exact Grow.rg HO_6.out | exact HO_6.out) (Kd.R_base ho43) hb)
      have n2_ := Aside0.mk (Kd.R_lower (Kd.R_new' (Kd.R_new' ho43 (Kd.R_lt (by first | exact Grow.rg HO_5.out | exact HO_5.out))) (Kd.R_lt (by first | exact Grow.rg HO_6.out | exact HO_6.out))) (below_size (by repeat (first | (with_reducible first | exact HB.out | apply below_alloc | apply pw_below_drewN | apply below_drew1 | refine below_set ?_ GE160.out) | exact HB.out))))
      have n3_ := Aside0.mk (blk_below (g := gb160) (o := .cells #[.int .i64 a0_0, .int .i64 a0_1, .int .i64 a0_2] 29 (0, 0)) (by first | exact Grow.bk BK160.out | exact BK160.out) hb)
      have n4_ := Aside0.mk (below_step (by repeat (first | (with_reducible first | exact HB.out | apply below_alloc | apply pw_below_drewN | apply below_drew1 | refine below_set ?_ GE160.out) | exact HB.out)) hb)
      clear HO_5
      clear HO_6
      clear BK160
      clear HB
      have HO_5 := n0_
      have HO_6 := n1_
      have HO173 := n2_
      have BK160 := n3_
      have HB := n4_
      clear n0_ n1_ n2_ n3_ n4_
      clear hb ho43
      obtain ⟨Ao45, co45, eo45⟩ := Kd.R_slice HO_6.out
      (first | subst eo45 | (injection eo45 with f1_ f2_ f3_; have f4_ := f1_.symm; have f5_ := f3_.symm; clear f1_ f2_ f3_; subst f4_; subst f5_))
      refine hK.out _ _ ⟨(blk_cell BK160.out 0).trans rfl, (blk_cell BK160.out 1).trans rfl, (blk_cell BK160.out 2).trans rfl⟩ (fun hHeld => ?_)
      clear hK K
      refine norm_ (a' := ?_) ?_ ?_; rotate_left; show Act.put _ (some 30) _ = _; simp only [Cap.pz]; rfl
      refine one_ (i := 2) (N := some 32) zf103 rfl rfl (one_of HT_.out (by kernel_rfl)) (by decide) (fun K hK => ?_)
      refine Kd.R_append_rows_step (Kd.int .i64) (w0 := w) w.heap.size (by rfl) (.tmp 30) (.tmp 31) 25 2 (.int .i64 0) 8 rfl Try.underlying25 info2 rfl (by decide) (by omega) v172 y171 x6_1 _ _ _ (fun k_ => some k_ ≠ (u5 : Value).ownBlock ∧ some k_ ≠ (.slice Ao45 x6_1.length co45 : Value).ownBlock) (fun _ => False) rfl rfl ?aO ?aR (fun _ _ h => h) (fun _ h => h.elim) ?aF ?aB ?aS ?aL ?_
      (case aR => repeat (first | exact (Kd.R_reads' HO_6.out).2.2 | (with_reducible refine Kd.C_alloc ?_ _) | (with_reducible refine Kd.C_drewN ?_ _) | (with_reducible refine Kd.C_drew ?_)))
      (case aB => exact (by repeat (first | (with_reducible first | exact HB.out | apply below_alloc | apply pw_below_drewN | apply below_drew1 | refine below_set ?_ GE160.out) | exact HB.out)))
      (case aF => exact (fun k_ hk => ⟨Kd.fresh' (Kd.R_lt (by first | exact Grow.rg HO_5.out | exact HO_5.out)) k_ hk, Kd.fresh' (Kd.R_lt (by first | exact Grow.rg HO_6.out | exact HO_6.out)) k_ hk⟩))
      (case aO => exact (by (with_reducible repeat (first | apply Kd.R_alloc | apply Kd.R_drewN | apply Kd.R_drew)); exact Kd.R_mono HO173.out (fun _ hk => ⟨hk.1.2, hk.2⟩)))
      (case aS => exact (below_size (by repeat (first | (with_reducible first | exact HB.out | apply below_alloc | apply pw_below_drewN | apply below_drew1 | refine below_set ?_ GE160.out) | exact HB.out))))
      (case aL => have := LMc17.out; omega)
      intro v175 w44 ho hb hg hat
      rw [← Ny174.out] at ho
      have n0_ := Aside0.mk (Kd.R_after (ok := (fun k_ => some k_ ≠ (.slice Ao45 x6_1.length co45 : Value).ownBlock)) (by first | exact Grow.rg HO_5.out | exact HO_5.out) hg hat)
      have n1_ := Aside0.mk (Kd.R_after (ok := (fun k_ => some k_ ≠ (u5 : Value).ownBlock)) (by first | exact Grow.rg HO_6.out | exact HO_6.out) hg hat)
      have n2_ := Aside0.mk (blk_grown (g := gb160) (o := .cells #[.int .i64 a0_0, .int .i64 a0_1, .int .i64 a0_2] 29 (0, 0)) (by first | exact Grow.bk BK160.out | exact BK160.out) hg (Kd.R_ne HO173.out BK160.out (by decide)))
      have n3_ := Aside0.mk (hb)
      have n4_ := Aside0.mk (ho)
      clear HO_5
      clear HO_6
      clear BK160
      clear HB
      clear HO173
      have HO_5 := n0_
      have HO_6 := n1_
      have BK160 := n2_
      have HB := n3_
      have HO176 := n4_
      clear n0_ n1_ n2_ n3_ n4_
      clear ho hb hg hat
      refine hK.out _ _ ⟨(blk_cell BK160.out 0).trans rfl, (blk_cell BK160.out 1).trans rfl, (blk_cell BK160.out 2).trans rfl⟩ (fun hHeld => ?_)
      clear hK K
      refine norm_ (a' := ?_) ?_ ?_; rotate_left; show Act.put _ (some 32) _ = _; simp only [Cap.pz]; rfl
      refine one_ (i := 5) (N := some 35) zf104 rfl rfl (one_of HT_.out (by kernel_rfl)) (by decide) (fun K hK => ?_)
      refine goes_ Try.func24 (by kernel_rfl) rfl #[.agg #[.int .i64 a0_0, .int .i64 a0_1, .int .i64 a0_2], .int .i64 x7_1] (by rfl) rfl rfl (by (try simp only [List.map_toArray, List.map_cons, List.map_nil]); first | done | rfl | (simp only [List.length_drop, List.length_take]; rfl)) ?_
      with_reducible refine (spec_CodeRow.calls kj7 a0_0 a0_1 a0_2 x7_1 t177 _ A18.out).mono ?_
      rintro e w46 ⟨v178, rfl, ho0, hb⟩
      refine ⟨_, rfl, ?_⟩
      have n0_ := Aside0.mk (Kd.R_elder' (by first | exact Grow.rg HO_5.out | exact HO_5.out) (Kd.R_base ho0) hb)
      have n1_ := Aside0.mk (Kd.R_elder' (by first | exact Grow.rg HO_6.out | exact HO_6.out) (Kd.R_base ho0) hb)
      have n2_ := Aside0.mk (Kd.R_elder' (by first | exact Grow.rg HO176.out | exact HO176.out) (Kd.R_base ho0) hb)
      have n3_ := Aside0.mk (Kd.R_lower (Kd.R_new' (Kd.R_new' (Kd.R_new' ho0 (Kd.R_lt (by first | exact Grow.rg HO_5.out | exact HO_5.out))) (Kd.R_lt (by first | exact Grow.rg HO_6.out | exact HO_6.out))) (Kd.R_lt (by first | exact Grow.rg HO176.out | exact HO176.out))) (below_size (by repeat (first | (with_reducible first | exact HB.out | apply below_alloc | apply pw_below_drewN | apply below_drew1 | refine below_set ?_ GE160.out) | exact HB.out))))
      have n4_ := Aside0.mk (blk_below (g := gb160) (o := .cells #[.int .i64 a0_0, .int .i64 a0_1, .int .i64 a0_2] 29 (0, 0)) (by first | exact Grow.bk BK160.out | exact BK160.out) hb)
      have n5_ := Aside0.mk (below_step (by repeat (first | (with_reducible first | exact HB.out | apply below_alloc | apply pw_below_drewN | apply below_drew1 | refine below_set ?_ GE160.out) | exact HB.out)) hb)
      clear HO_5
      clear HO_6
      clear HO176
      clear BK160
      clear HB
      have HO_5 := n0_
      have HO_6 := n1_
      have HO176 := n2_
      have HO179 := n3_
      have BK160 := n4_
      have HB := n5_
      clear n0_ n1_ n2_ n3_ n4_ n5_
      (try clear hb)
      (try clear hb2)
      (try clear hk)
      (try clear hi)
      (try clear ho0)
      obtain ⟨Ao48, co48, eo48⟩ := Kd.R_slice HO179.out
      (first | subst eo48 | (injection eo48 with f1_ f2_ f3_; have f4_ := f1_.symm; have f5_ := f3_.symm; clear f1_ f2_ f3_; subst f4_; subst f5_))
      refine hK.out _ _ ⟨(blk_cell BK160.out 0).trans rfl, (blk_cell BK160.out 1).trans rfl, (blk_cell BK160.out 2).trans rfl⟩ (fun hHeld => ?_)
      clear hK K
      refine norm_ (a' := ?_) ?_ ?_; rotate_left; show Act.put _ (some 35) _ = _; simp only [Cap.pz]; rfl
      refine one_ (i := 6) (N := some 36) zf105 rfl rfl (one_of HT_.out (by kernel_rfl)) (by decide) (fun K hK => ?_)
      refine Kd.R_append_rows_step (Kd.int .i64) (w0 := w) w.heap.size (by rfl) (.tmp 32) (.tmp 35) 25 2 (.int .i64 0) 8 rfl Try.underlying25 info2 rfl (by decide) (by omega) v175 y174 t177 _ _ _ (fun k_ => some k_ ≠ (u5 : Value).ownBlock ∧ some k_ ≠ (.slice Ao45 x6_1.length co45 : Value).ownBlock ∧ some k_ ≠ (.slice Ao48 t177.length co48 : Value).ownBlock) (fun _ => False) rfl rfl ?aO ?aR (fun _ _ h => h) (fun _ h => h.elim) ?aF ?aB ?aS ?aL ?_
      (case aR => repeat (first | exact (Kd.R_reads' HO179.out).2.2 | (with_reducible refine Kd.C_alloc ?_ _) | (with_reducible refine Kd.C_drewN ?_ _) | (with_reducible refine Kd.C_drew ?_)))
      (case aB => exact (by repeat (first | (with_reducible first | exact HB.out | apply below_alloc | apply pw_below_drewN | apply below_drew1 | refine below_set ?_ GE160.out) | exact HB.out)))
      (case aF => exact (fun k_ hk => ⟨Kd.fresh' (Kd.R_lt (by first | exact Grow.rg HO_5.out | exact HO_5.out)) k_ hk, Kd.fresh' (Kd.R_lt (by first | exact Grow.rg HO_6.out | exact HO_6.out)) k_ hk, Kd.fresh' (Kd.R_lt (by first | exact Grow.rg HO179.out | exact HO179.out)) k_ hk⟩))
      (case aO => exact (by (with_reducible repeat (first | apply Kd.R_alloc | apply Kd.R_drewN | apply Kd.R_drew)); exact Kd.R_mono HO176.out (fun _ hk => ⟨hk.1.1, ⟨hk.1.2, hk.2⟩⟩)))
      (case aS => exact (below_size (by repeat (first | (with_reducible first | exact HB.out | apply below_alloc | apply pw_below_drewN | apply below_drew1 | refine below_set ?_ GE160.out) | exact HB.out))))
      (case aL => have := LMc19.out; omega)
      intro v181 w47 ho hb hg hat
      rw [← Ny180.out] at ho
      have n0_ := Aside0.mk (Kd.R_after (ok := (fun k_ => some k_ ≠ (.slice Ao45 x6_1.length co45 : Value).ownBlock ∧ some k_ ≠ (.slice Ao48 t177.length co48 : Value).ownBlock)) (by (with_reducible repeat (first | apply Kd.R_alloc | apply Kd.R_drewN | apply Kd.R_drew)); exact Kd.R_mono HO_5.out (fun _ hk => ⟨⟨hk.1.1, hk.2⟩, hk.1.2⟩)) hg hat)
      have n1_ := Aside0.mk (Kd.R_after (ok := (fun k_ => some k_ ≠ (u5 : Value).ownBlock ∧ some k_ ≠ (.slice Ao48 t177.length co48 : Value).ownBlock)) (by (with_reducible repeat (first | apply Kd.R_alloc | apply Kd.R_drewN | apply Kd.R_drew)); exact Kd.R_mono HO_6.out (fun _ hk => ⟨⟨hk.1.1, hk.2⟩, hk.1.2⟩)) hg hat)
      have n2_ := Aside0.mk (blk_grown (g := gb160) (o := .cells #[.int .i64 a0_0, .int .i64 a0_1, .int .i64 a0_2] 29 (0, 0)) (by first | exact Grow.bk BK160.out | exact BK160.out) hg (Kd.R_ne HO176.out BK160.out (by decide)))
      have n3_ := Aside0.mk (Kd.R_after (ok := (fun k_ => some k_ ≠ (u5 : Value).ownBlock ∧ some k_ ≠ (.slice Ao45 x6_1.length co45 : Value).ownBlock)) (by (with_reducible repeat (first | apply Kd.R_alloc | apply Kd.R_drewN | apply Kd.R_drew)); exact Kd.R_mono HO179.out (fun _ hk => ⟨⟨hk.1.1.2, hk.1.2⟩, hk.2⟩)) hg hat)
      have n4_ := Aside0.mk (hb)
      have n5_ := Aside0.mk (ho)
      clear HO_5
      clear HO_6
      clear BK160
      clear HO179
      clear HB
      clear HO176
      have HO_5 := n0_
      have HO_6 := n1_
      have BK160 := n2_
      have HO179 := n3_
      have HB := n4_
      have HO182 := n5_
      clear n0_ n1_ n2_ n3_ n4_ n5_
      clear ho hb hg hat
      refine hK.out _ _ ⟨(blk_cell BK160.out 0).trans rfl, (blk_cell BK160.out 1).trans rfl, (blk_cell BK160.out 2).trans rfl⟩ (fun hHeld => ?_)
      clear hK K
      refine norm_ (a' := ?_) ?_ ?_; rotate_left; show Act.put _ (some 36) _ = _; simp only [Cap.pz]; rfl
      refine Cap.pu (v := ?_) (a' := ?_) 7 (some 8) zf106 HT_ rfl rfl (by kernel_rfl) (fun _ _ _ h => h) (Or.inl ⟨by rfl, ?_⟩) ?_ ?_; rotate_left; intro w'; go_simp; with_reducible rfl; rotate_left; simp only [Cap.pz]; rfl
      refine done_ (done_of HT_.out (by kernel_rfl)) ?_
      obtain ⟨Ao49, co49, eo49⟩ := Kd.R_slice HO_5.out
      subst eo49
      have hcz50_0 : w47.cell? ⟨gb160, 0, none⟩ = some (.int .i64 a0_0) := (blk_cell BK160.out 0).trans rfl
      have hcz50_1 : w47.cell? ⟨gb160, 1, none⟩ = some (.int .i64 a0_1) := (blk_cell BK160.out 1).trans rfl
      have hcz50_2 : w47.cell? ⟨gb160, 2, none⟩ = some (.int .i64 a0_2) := (blk_cell BK160.out 2).trans rfl
      have hfz50_0 := blk_frozen BK160.out 0
      have hfz50_1 := blk_frozen BK160.out 1
      have hfz50_2 := blk_frozen BK160.out 2
      obtain ⟨Ao51, co51, eo51⟩ := Kd.R_slice HO182.out
      subst eo51
      try go_wp2_with (first | ((with_reducible refine gate_dst (N := 9) rfl ?_); (try (refine gate_guard (by rfl) ?_; dsimp only)); refine box_event ?hg (N := 9) ?hd (cs := #[.int .i64 0, .int .i64 0, .slice none 0 0]) (t := 48) ?hr ?_; (case hd => rfl); (case hg => rfl); (case hr => first | (go_simp; done) | (go_simp; rfl)); intro gb183 hg w52 hbox hb; have n0_ := Aside0.mk (Kd.R_below (by first | exact Grow.rg HO_5.out | exact HO_5.out) hb); have n1_ := Aside0.mk (Kd.R_below (by first | exact Grow.rg HO_6.out | exact HO_6.out) hb); have n2_ := Aside0.mk (Kd.R_below (by first | exact Grow.rg HO179.out | exact HO179.out) hb); have n3_ := Aside0.mk (Kd.R_below (by first | exact Grow.rg HO182.out | exact HO182.out) hb); have n4_ := Aside0.mk (blk_below (g := gb160) (o := .cells #[.int .i64 a0_0, .int .i64 a0_1, .int .i64 a0_2] 29 (0, 0)) (by first | exact Grow.bk BK160.out | exact BK160.out) hb); have n5_ := Aside0.mk (below_step (by repeat (first | (with_reducible first | exact HB.out | apply below_alloc | apply pw_below_drewN | apply below_drew1 | refine below_set ?_ GE160.out) | exact HB.out)) hb); have n6_ := Aside0.mk (hbox); have n7_ := Aside0.mk ((by rw [hg]; exact (below_size (by repeat (first | (with_reducible first | exact HB.out | apply below_alloc | apply pw_below_drewN | apply below_drew1 | refine below_set ?_ GE160.out) | exact HB.out))) : w.heap.size ≤ gb183)); have n8_ := Aside0.mk ((by rw [hg]; exact (below_size (by repeat (first | (with_reducible first | exact HB.out | apply below_alloc | apply pw_below_drewN | apply below_drew1 | refine below_set ?_ GE160.out) | exact HB.out))) : w.heap.size ≤ gb183)); have n9_ := Aside0.mk ((by rw [hg]; exact Nat.ne_of_lt (blk_lt (g := gb160) (o := .cells #[.int .i64 a0_0, .int .i64 a0_1, .int .i64 a0_2] 29 (0, 0)) (by first | exact Grow.bk BK160.out | exact BK160.out)) : gb160 ≠ gb183)); have n10_ := Aside0.mk ((by rw [hg]; exact Nat.ne_of_gt (blk_lt (g := gb160) (o := .cells #[.int .i64 a0_0, .int .i64 a0_1, .int .i64 a0_2] 29 (0, 0)) (by first | exact Grow.bk BK160.out | exact BK160.out)) : gb183 ≠ gb160)); clear HO_5; clear HO_6; clear HO179; clear HO182; clear BK160; clear HB; have HO_5 := n0_; have HO_6 := n1_; have HO179 := n2_; have HO182 := n3_; have BK160 := n4_; have HB := n5_; have BK183 := n6_; have GW183 := n7_; have GE183 := n8_; have NB160_183 := n9_; have NB183_160 := n10_; clear n0_ n1_ n2_ n3_ n4_ n5_ n6_ n7_ n8_ n9_ n10_; clear hb hbox hg; have hnb53 := NB183_160.out; have hnc53 := NB160_183.out; have hcz54_0 : w52.cell? ⟨gb183, 0, none⟩ = some (.int .i64 0) := (blk_cell BK183.out 0).trans rfl; have hcz54_1 : w52.cell? ⟨gb183, 1, none⟩ = some (.int .i64 0) := (blk_cell BK183.out 1).trans rfl; have hcz54_2 : w52.cell? ⟨gb183, 2, none⟩ = some (.slice none 0 0) := (blk_cell BK183.out 2).trans rfl; have hfz54_0 := blk_frozen BK183.out 0; have hfz54_1 := blk_frozen BK183.out 1; have hfz54_2 := blk_frozen BK183.out 2))
      have n0_ : Aside0 (Kd.R (Kd.int .i64) 2 (((w52.setCell ⟨gb183, 0, none⟩ (.int .i64 (wrap64 ((x5_1.length : Int) + 1)))).setCell ⟨gb183, 1, none⟩ (.int .i64 a0_0)).setCell ⟨gb183, 2, none⟩ (.slice Ao51 y180.length co51)) w.heap.size (fun k_ => some k_ ≠ (.slice Ao45 x6_1.length co45 : Value).ownBlock ∧ some k_ ≠ (.slice Ao48 t177.length co48 : Value).ownBlock ∧ some k_ ≠ (.slice Ao51 y180.length co51 : Value).ownBlock) (.slice Ao49 x5_1.length co49) x5_1) := ⟨by (with_reducible repeat (first | apply Kd.R_alloc | apply Kd.R_drewN | apply Kd.R_drew)); exact Kd.R_mono (Kd.R_far (p := ⟨gb183, 2, none⟩) (Kd.R_far (p := ⟨gb183, 1, none⟩) (Kd.R_far (p := ⟨gb183, 0, none⟩) (Kd.R_types HO_5.out BK183.out (by decide)) (fun _ hk => hk.2) (.int .i64 (wrap64 ((x5_1.length : Int) + 1)))) (fun _ hk => hk.2) (.int .i64 a0_0)) (fun _ hk => hk.2) (.slice Ao51 y180.length co51)) (fun _ hk => ⟨hk.1.1.1, ⟨hk.1.1.2, hk.1.2⟩⟩)⟩
      have n1_ : Aside0 (Kd.R (Kd.int .i64) 2 (((w52.setCell ⟨gb183, 0, none⟩ (.int .i64 (wrap64 ((x5_1.length : Int) + 1)))).setCell ⟨gb183, 1, none⟩ (.int .i64 a0_0)).setCell ⟨gb183, 2, none⟩ (.slice Ao51 y180.length co51)) w.heap.size (fun k_ => some k_ ≠ (.slice Ao49 x5_1.length co49 : Value).ownBlock ∧ some k_ ≠ (.slice Ao48 t177.length co48 : Value).ownBlock ∧ some k_ ≠ (.slice Ao51 y180.length co51 : Value).ownBlock) (.slice Ao45 x6_1.length co45) x6_1) := ⟨by (with_reducible repeat (first | apply Kd.R_alloc | apply Kd.R_drewN | apply Kd.R_drew)); exact Kd.R_mono (Kd.R_far (p := ⟨gb183, 2, none⟩) (Kd.R_far (p := ⟨gb183, 1, none⟩) (Kd.R_far (p := ⟨gb183, 0, none⟩) (Kd.R_types HO_6.out BK183.out (by decide)) (fun _ hk => hk.2) (.int .i64 (wrap64 ((x5_1.length : Int) + 1)))) (fun _ hk => hk.2) (.int .i64 a0_0)) (fun _ hk => hk.2) (.slice Ao51 y180.length co51)) (fun _ hk => ⟨hk.1.1.1, ⟨hk.1.1.2, hk.1.2⟩⟩)⟩
      have n2_ : Aside0 (Kd.R (Kd.int .i64) 2 (((w52.setCell ⟨gb183, 0, none⟩ (.int .i64 (wrap64 ((x5_1.length : Int) + 1)))).setCell ⟨gb183, 1, none⟩ (.int .i64 a0_0)).setCell ⟨gb183, 2, none⟩ (.slice Ao51 y180.length co51)) w.heap.size (fun k_ => some k_ ≠ (.slice Ao49 x5_1.length co49 : Value).ownBlock ∧ some k_ ≠ (.slice Ao45 x6_1.length co45 : Value).ownBlock ∧ some k_ ≠ (.slice Ao51 y180.length co51 : Value).ownBlock) (.slice Ao48 t177.length co48) t177) := ⟨by (with_reducible repeat (first | apply Kd.R_alloc | apply Kd.R_drewN | apply Kd.R_drew)); exact Kd.R_mono (Kd.R_far (p := ⟨gb183, 2, none⟩) (Kd.R_far (p := ⟨gb183, 1, none⟩) (Kd.R_far (p := ⟨gb183, 0, none⟩) (Kd.R_types HO179.out BK183.out (by decide)) (fun _ hk => hk.2) (.int .i64 (wrap64 ((x5_1.length : Int) + 1)))) (fun _ hk => hk.2) (.int .i64 a0_0)) (fun _ hk => hk.2) (.slice Ao51 y180.length co51)) (fun _ hk => ⟨hk.1.1.1, ⟨hk.1.1.2, hk.1.2⟩⟩)⟩
      have n3_ : Aside0 (Kd.R (Kd.int .i64) 2 (((w52.setCell ⟨gb183, 0, none⟩ (.int .i64 (wrap64 ((x5_1.length : Int) + 1)))).setCell ⟨gb183, 1, none⟩ (.int .i64 a0_0)).setCell ⟨gb183, 2, none⟩ (.slice Ao51 y180.length co51)) w.heap.size (fun k_ => some k_ ≠ (.slice Ao49 x5_1.length co49 : Value).ownBlock ∧ some k_ ≠ (.slice Ao45 x6_1.length co45 : Value).ownBlock ∧ some k_ ≠ (.slice Ao48 t177.length co48 : Value).ownBlock) (.slice Ao51 y180.length co51) y180) := ⟨by (with_reducible repeat (first | apply Kd.R_alloc | apply Kd.R_drewN | apply Kd.R_drew)); exact Kd.R_mono (Kd.R_far (p := ⟨gb183, 2, none⟩) (Kd.R_far (p := ⟨gb183, 1, none⟩) (Kd.R_far (p := ⟨gb183, 0, none⟩) (Kd.R_types HO182.out BK183.out (by decide)) (fun _ hk => hk.2) (.int .i64 (wrap64 ((x5_1.length : Int) + 1)))) (fun _ hk => hk.2) (.int .i64 a0_0)) (fun _ hk => hk.2) (.slice Ao51 y180.length co51)) (fun _ hk => ⟨hk.1.1, ⟨hk.1.2.1, hk.1.2.2⟩⟩)⟩
      have n4_ : Aside0 ((((w52.setCell ⟨gb183, 0, none⟩ (.int .i64 (wrap64 ((x5_1.length : Int) + 1)))).setCell ⟨gb183, 1, none⟩ (.int .i64 a0_0)).setCell ⟨gb183, 2, none⟩ (.slice Ao51 y180.length co51)).heap[gb160]? = some (.cells #[.int .i64 a0_0, .int .i64 a0_1, .int .i64 a0_2] 29 (0, 0))) := ⟨by (with_reducible repeat (first | refine blk_drewN ?_ _ | refine blk_drew ?_ | refine blk_alloc ?_ _)); refine blk_far ?_ NB160_183.out _; (with_reducible repeat (first | refine blk_drewN ?_ _ | refine blk_drew ?_ | refine blk_alloc ?_ _)); refine blk_far ?_ NB160_183.out _; (with_reducible repeat (first | refine blk_drewN ?_ _ | refine blk_drew ?_ | refine blk_alloc ?_ _)); refine blk_far ?_ NB160_183.out _; (with_reducible repeat (first | refine blk_drewN ?_ _ | refine blk_drew ?_ | refine blk_alloc ?_ _)); exact BK160.out⟩
      have n5_ : Aside0 ((((w52.setCell ⟨gb183, 0, none⟩ (.int .i64 (wrap64 ((x5_1.length : Int) + 1)))).setCell ⟨gb183, 1, none⟩ (.int .i64 a0_0)).setCell ⟨gb183, 2, none⟩ (.slice Ao51 y180.length co51)).heap[gb183]? = some (.cells #[.int .i64 (wrap64 ((x5_1.length : Int) + 1)), .int .i64 a0_0, .slice Ao51 y180.length co51] 48 (0, 0))) := ⟨by (with_reducible repeat (first | refine blk_drewN ?_ _ | refine blk_drew ?_ | refine blk_alloc ?_ _)); refine blk_put (cs := #[.int .i64 (wrap64 ((x5_1.length : Int) + 1)), .int .i64 a0_0, .slice none 0 0]) ?_ 2 _ rfl; (with_reducible repeat (first | refine blk_drewN ?_ _ | refine blk_drew ?_ | refine blk_alloc ?_ _)); refine blk_put (cs := #[.int .i64 (wrap64 ((x5_1.length : Int) + 1)), .int .i64 0, .slice none 0 0]) ?_ 1 _ rfl; (with_reducible repeat (first | refine blk_drewN ?_ _ | refine blk_drew ?_ | refine blk_alloc ?_ _)); refine blk_put (cs := #[.int .i64 0, .int .i64 0, .slice none 0 0]) ?_ 0 _ rfl; (with_reducible repeat (first | refine blk_drewN ?_ _ | refine blk_drew ?_ | refine blk_alloc ?_ _)); exact BK183.out⟩
      have n6_ : Aside0 (Below w.heap.size w (((w52.setCell ⟨gb183, 0, none⟩ (.int .i64 (wrap64 ((x5_1.length : Int) + 1)))).setCell ⟨gb183, 1, none⟩ (.int .i64 a0_0)).setCell ⟨gb183, 2, none⟩ (.slice Ao51 y180.length co51))) := ⟨by repeat (first | (with_reducible first | exact HB.out | apply below_alloc | apply pw_below_drewN | apply below_drew1 | refine below_set ?_ GE160.out | refine below_set ?_ GE183.out) | exact HB.out)⟩
      (try clear HO_5)
      (try clear HO_6)
      (try clear HO179)
      (try clear HO182)
      (try clear BK160)
      (try clear BK183)
      (try clear HB)
      generalize (((w52.setCell ⟨gb183, 0, none⟩ (.int .i64 (wrap64 ((x5_1.length : Int) + 1)))).setCell ⟨gb183, 1, none⟩ (.int .i64 a0_0)).setCell ⟨gb183, 2, none⟩ (.slice Ao51 y180.length co51)) = w55 at n0_ n1_ n2_ n3_ n4_ n5_ n6_ ⊢
      have HO_5 := n0_
      have HO_6 := n1_
      have HO179 := n2_
      have HO182 := n3_
      have BK160 := n4_
      have BK183 := n5_
      have HB := n6_
      clear n0_ n1_ n2_ n3_ n4_ n5_ n6_
      have n0_ := Aside0.mk (Kd.R_drew HO_5.out)
      have n1_ := Aside0.mk (Kd.R_drew HO_6.out)
      have n2_ := Aside0.mk (Kd.R_drew HO179.out)
      have n3_ := Aside0.mk (Kd.R_drew HO182.out)
      have n4_ := Aside0.mk (blk_drew BK160.out)
      have n5_ := Aside0.mk (blk_drew BK183.out)
      have n6_ := Aside0.mk (below_drew1 HB.out)
      clear HO_5
      clear HO_6
      clear HO179
      clear HO182
      clear BK160
      clear BK183
      clear HB
      have HO_5 := n0_
      have HO_6 := n1_
      have HO179 := n2_
      have HO182 := n3_
      have BK160 := n4_
      have BK183 := n5_
      have HB := n6_
      clear n0_ n1_ n2_ n3_ n4_ n5_ n6_
      refine start_ (n := 5) (S := fun w' => w'.cell? ⟨gb183, 0, none⟩ = some (.int .i64 (wrap64 ((x5_1.length : Int) + 1))) ∧ w'.cell? ⟨gb183, 1, none⟩ = some (.int .i64 a0_0) ∧ w'.cell? ⟨gb183, 2, none⟩ = some (.slice Ao51 y180.length co51)) (ds := []) #[false, false, false, false, false] (by kernel_rfl) rfl rfl ⟨(blk_cell BK183.out 0).trans rfl, (blk_cell BK183.out 1).trans rfl, (blk_cell BK183.out 2).trans rfl⟩ (fun hHeld => ?_)
      generalize w55.drew = w56 at HO_5 HO_6 HO179 HO182 BK160 BK183 HB hHeld ⊢
      refine pure_ (i := 2) (N := some 46) (v := ?_) (a' := ?_) #[false, false, true, false, false] rfl rfl (by kernel_rfl) (fun _ _ _ h => h) (Or.inl ⟨by rfl, ?_⟩) ?_ ?_; rotate_left; intro w'; go_simp; with_reducible rfl; rotate_left; simp only [Cap.pz]; rfl
      refine take_ (i := 0) (N := some 44) (v := ?_) (a' := ?_) #[true, false, true, false, false] rfl rfl (by kernel_rfl) (fun _ _ _ h => h) (Or.inl ⟨by rfl, ?_⟩) hHeld ?_ ?_; rotate_left; rintro w' ⟨s0, s1, s2⟩; go_simp; with_reducible rfl; rotate_left; simp only [Cap.pz]; rfl
      refine take_ (i := 3) (N := some 47) (v := ?_) (a' := ?_) #[true, false, true, true, false] rfl rfl (by kernel_rfl) (fun _ _ _ h => h) (Or.inl ⟨by rfl, ?_⟩) hHeld ?_ ?_; rotate_left; rintro w' ⟨s0, s1, s2⟩; go_simp; with_reducible rfl; rotate_left; simp only [Cap.pz]; rfl
      refine one_ (i := 1) (N := some 45) #[true, true, true, true, false] rfl rfl (by kernel_rfl) (by decide) (fun K hK => ?_)
      refine goes_ Try.func25 (by kernel_rfl) rfl #[.agg #[.int .i64 (wrap64 ((x5_1.length : Int) + 1)), .int .i64 a0_0, .slice Ao51 y180.length co51]] (by rfl) rfl rfl (by (try simp only [List.map_toArray, List.map_cons, List.map_nil]); first | done | rfl | (simp only [List.length_drop, List.length_take]; rfl)) ?_
      with_reducible refine (spec_l03Rank.calls kj7 (wrap64 ((x5_1.length : Int) + 1)) a0_0 _ _ y180 t184 _ ?side1 ?side2 A20.out).mono ?_
      (case side1 => repeat (first | exact (Kd.R_reads' HO182.out).2.2 | (with_reducible refine Kd.C_alloc ?_ _) | (with_reducible refine Kd.C_drewN ?_ _) | (with_reducible refine Kd.C_drew ?_)))
      (case side2 => exact (Kd.R_reads' HO182.out).2.1)
      rintro e w57 ⟨rfl, hb⟩
      refine ⟨_, rfl, ?_⟩
      have n0_ := Aside0.mk (Kd.R_below (by first | exact Grow.rg HO_5.out | exact HO_5.out) hb)
      have n1_ := Aside0.mk (Kd.R_below (by first | exact Grow.rg HO_6.out | exact HO_6.out) hb)
      have n2_ := Aside0.mk (Kd.R_below (by first | exact Grow.rg HO179.out | exact HO179.out) hb)
      have n3_ := Aside0.mk (Kd.R_below (by first | exact Grow.rg HO182.out | exact HO182.out) hb)
      have n4_ := Aside0.mk (blk_below (g := gb160) (o := .cells #[.int .i64 a0_0, .int .i64 a0_1, .int .i64 a0_2] 29 (0, 0)) (by first | exact Grow.bk BK160.out | exact BK160.out) hb)
      have n5_ := Aside0.mk (blk_below (g := gb183) (o := .cells #[.int .i64 (wrap64 ((x5_1.length : Int) + 1)), .int .i64 a0_0, .slice Ao51 y180.length co51] 48 (0, 0)) (by first | exact Grow.bk BK183.out | exact BK183.out) hb)
      have n6_ := Aside0.mk (below_step (by repeat (first | (with_reducible first | exact HB.out | apply below_alloc | apply pw_below_drewN | apply below_drew1 | refine below_set ?_ GE160.out | refine below_set ?_ GE183.out) | exact HB.out)) hb)
      clear HO_5
      clear HO_6
      clear HO179
      clear HO182
      clear BK160
      clear BK183
      clear HB
      have HO_5 := n0_
      have HO_6 := n1_
      have HO179 := n2_
      have HO182 := n3_
      have BK160 := n4_
      have BK183 := n5_
      have HB := n6_
      clear n0_ n1_ n2_ n3_ n4_ n5_ n6_
      (try clear hb)
      (try clear hb2)
      (try clear hk)
      (try clear hi)
      refine hK.out _ _ ⟨(blk_cell BK183.out 0).trans rfl, (blk_cell BK183.out 1).trans rfl, (blk_cell BK183.out 2).trans rfl⟩ (fun hHeld => ?_)
      clear hK K
      refine norm_ (a' := ?_) ?_ ?_; rotate_left; show Act.put _ (some 45) _ = _; simp only [Cap.pz]; rfl
      refine pure_ (i := 4) (N := some 48) (v := ?_) (a' := ?_) #[true, true, true, true, true] rfl rfl (by kernel_rfl) (fun _ _ _ h => h) (Or.inl ⟨by rfl, ?_⟩) ?_ ?_; rotate_left; intro w'; go_simp; with_reducible rfl; rotate_left; simp only [Cap.pz]; rfl
      refine done_ (by kernel_rfl) ?_
      try go_wp2
      go_roundg kj7
      case measure => have := HK1.out; have := HJ7.out; omega
      case rel => exact ⟨(x5_1), (x6_1), (wrap64 (x7_1 + 1)), (by first | rfl | (simp; done) | (simp [*]; done)), H', ⟨by have := HK1.out; have := HJ7.out; omega⟩, ⟨by (with_reducible repeat (first | apply Kd.R_alloc | apply Kd.R_drewN | apply Kd.R_drew)); exact Kd.R_mono HO_5.out (fun _ hk => hk.1)⟩, ⟨by (with_reducible repeat (first | apply Kd.R_alloc | apply Kd.R_drewN | apply Kd.R_drew)); exact Kd.R_mono HO_6.out (fun _ hk => hk.1)⟩, ⟨by first | exact Grow.bk BK160.out | exact BK160.out⟩, ⟨by repeat (first | (with_reducible first | exact HB.out | apply below_alloc | apply pw_below_drewN | apply below_drew1 | refine below_set ?_ GE160.out | refine below_set ?_ GE183.out) | exact HB.out)⟩⟩
     rw [if_pos c21] at H
     have c21b0 : (t184 == (wrap64 ((x5_1.length : Int) + 1))) = true := beq_iff_eq.mpr c21
     have c21b1 : (t184 != (wrap64 ((x5_1.length : Int) + 1))) = false := bne_eq_false_iff_eq.mpr c21
     clear c21
     by_cases c22 : x5_1.length < 17592186044416
     rotate_left
     ·
      rw [if_neg c22] at H
      exact absurd H (by simp)
     rw [if_pos c22] at H
     have LMc22 := Aside0.mk c22
     clear c22
     obtain ⟨y185, hy185⟩ : ∃ y_ : List Int, y_ = (x5_1 ++ [x7_1]) := ⟨_, rfl⟩
     replace H : (spec_l04Take.l0 kj7 l1 y185 y180 (wrap64 (x7_1 + 1)) a0_0 a0_1 a0_2) = some r := by first | (rw [hy185]; with_reducible exact H) | (have H2_ := (Option.bind_some _ _).symm.trans H; rw [hy185]; with_reducible exact H2_) | (have H2_ := (Option.bind_some _ _).symm.trans H; with_reducible exact H2_) | with_reducible exact H | (rw [hy185]; exact H) | exact H
     have Ny185 := Aside0.mk hy185
     clear hy185
     have H' := Aside0.mk H
     clear H
     have p170 : 0 ≤ (x7_1 : Int) := of_decide_eq_true (by first | (with_reducible assumption) | assumption)
     have q170 : x7_1 < (l1.length : Int) := of_decide_eq_true (by first | (with_reducible assumption) | assumption)
     obtain ⟨ad170, e170, hx170_0⟩ := Kd.at_bool HR1.out x7_1 p170 q170
     (try rw [← Nbq15.out] at hx170_0)
     cases e170
     replace hx170_0 := Grow.bc HB.out hx170_0
     replace p170 := eq_true p170
     replace q170 := eq_true q170
     try go_wp2
     have n0_ := Aside0.mk (Kd.R_drew HO_5.out)
     have n1_ := Aside0.mk (Kd.R_drew HO_6.out)
     have n2_ := Aside0.mk (blk_drew BK160.out)
     have n3_ := Aside0.mk (below_drew1 HB.out)
     clear HO_5
     clear HO_6
     clear BK160
     clear HB
     have HO_5 := n0_
     have HO_6 := n1_
     have BK160 := n2_
     have HB := n3_
     clear n0_ n1_ n2_ n3_
     refine start_ (n := 8) (S := fun w' => w'.cell? ⟨gb160, 0, none⟩ = some (.int .i64 a0_0) ∧ w'.cell? ⟨gb160, 1, none⟩ = some (.int .i64 a0_1) ∧ w'.cell? ⟨gb160, 2, none⟩ = some (.int .i64 a0_2)) (ds := []) zf98 (by kernel_rfl) rfl rfl ⟨(blk_cell BK160.out 0).trans rfl, (blk_cell BK160.out 1).trans rfl, (blk_cell BK160.out 2).trans rfl⟩ (fun hHeld => ?_); refine with_tabW spec_l04Take.tab7 spec_l04Take.bits7 (fun HT_ HW_ => ?_)
     generalize wc.drew = w23 at HO_5 HO_6 BK160 HB hHeld ⊢
     refine Cap.pu (v := ?_) (a' := ?_) 1 (some 31) zf99 HT_ rfl rfl (by kernel_rfl) (fun _ _ _ h => h) (Or.inl ⟨by rfl, ?_⟩) ?_ ?_; rotate_left; intro w'; go_simp; with_reducible rfl; rotate_left; simp only [Cap.pz]; rfl
     refine Cap.pu (v := ?_) (a' := ?_) 4 (some 34) zf100 HT_ rfl rfl (by kernel_rfl) (fun _ _ _ h => h) (Or.inl ⟨by rfl, ?_⟩) ?_ ?_; rotate_left; intro w'; go_simp; with_reducible rfl; rotate_left; simp only [Cap.pz]; rfl
     refine take_ (i := 3) (N := some 33) (v := ?_) (a' := ?_) zf101 rfl rfl (take_ofW HT_.out HW_.out (by kernel_rfl)) (fun _ _ _ h => h) (Or.inl ⟨by rfl, ?_⟩) hHeld ?_ ?_; rotate_left; rintro w' ⟨s0, s1, s2⟩; go_simp; with_reducible rfl; rotate_left; simp only [Cap.pz]; rfl
     refine one_ (i := 0) (N := some 30) zf102 rfl rfl (one_of HT_.out (by kernel_rfl)) (by decide) (fun K hK => ?_)
     refine Kd.R_lit_step (Kd.int .i64) _ 2 ?hg (N := 30) ?hd (xs := ([] : List Int)) (inner := []) (ok := fun _ => True) (okp := fun _ => True) ?hr ?hp (fun _ hk => hk) trivial (Below.refl _ _) (Nat.le_refl _) (by simp) ?_; (case hd => rfl); (case hg => rfl); (case hr => first | (go_simp; done) | (go_simp; rfl)); (case hp => exact (Reps.none _ _))
     intro v172 w24 ho25 hb hg_ hnew_
     clear hg_ hnew_
     (first | rw [← Ny171.out] at ho25 | (simp only [Int.reduceToNat] at ho25; rw [← Ny171.out] at ho25))
     have n0_ := Aside0.mk (Kd.R_elder' (by first | exact Grow.rg HO_5.out | exact HO_5.out) (Kd.R_base ho25) hb)
     have n1_ := Aside0.mk (Kd.R_elder' (by first | exact Grow.rg HO_6.out | exact HO_6.out) (Kd.R_base ho25) hb)
     have n2_ := Aside0.mk (Kd.R_lower (Kd.R_new' (Kd.R_new' ho25 (Kd.R_lt (by first | exact Grow.rg HO_5.out | exact HO_5.out))) (Kd.R_lt (by first | exact Grow.rg HO_6.out | exact HO_6.out))) (below_size (by repeat (first | (with_reducible first | exact HB.out | apply below_alloc | apply pw_below_drewN | apply below_drew1 | refine below_set ?_ GE160.out) | exact HB.out))))
     have n3_ := Aside0.mk (blk_below (g := gb160) (o := .cells #[.int .i64 a0_0, .int .i64 a0_1, .int .i64 a0_2] 29 (0, 0)) (by first | exact Grow.bk BK160.out | exact BK160.out) hb)
     have n4_ := Aside0.mk (below_step (by repeat (first | (with_reducible first | exact HB.out | apply below_alloc | apply pw_below_drewN | apply below_drew1 | refine below_set ?_ GE160.out) | exact HB.out)) hb)
     clear HO_5
     clear HO_6
     clear BK160
     clear HB
     have HO_5 := n0_
     have HO_6 := n1_
     have HO173 := n2_
     have BK160 := n3_
     have HB := n4_
     clear n0_ n1_ n2_ n3_ n4_
     clear hb ho25
     obtain ⟨Ao27, co27, eo27⟩ := Kd.R_slice HO_6.out
     (first | subst eo27 | (injection eo27 with f1_ f2_ f3_; have f4_ := f1_.symm; have f5_ := f3_.symm; clear f1_ f2_ f3_; subst f4_; subst f5_))
     refine hK.out _ _ ⟨(blk_cell BK160.out 0).trans rfl, (blk_cell BK160.out 1).trans rfl, (blk_cell BK160.out 2).trans rfl⟩ (fun hHeld => ?_)
     clear hK K
     refine norm_ (a' := ?_) ?_ ?_; rotate_left; show Act.put _ (some 30) _ = _; simp only [Cap.pz]; rfl
     refine one_ (i := 2) (N := some 32) zf103 rfl rfl (one_of HT_.out (by kernel_rfl)) (by decide) (fun K hK => ?_)
     refine Kd.R_append_rows_step (Kd.int .i64) (w0 := w) w.heap.size (by rfl) (.tmp 30) (.tmp 31) 25 2 (.int .i64 0) 8 rfl Try.underlying25 info2 rfl (by decide) (by omega) v172 y171 x6_1 _ _ _ (fun k_ => some k_ ≠ (u5 : Value).ownBlock ∧ some k_ ≠ (.slice Ao27 x6_1.length co27 : Value).ownBlock) (fun _ => False) rfl rfl ?aO ?aR (fun _ _ h => h) (fun _ h => h.elim) ?aF ?aB ?aS ?aL ?_
     (case aR => repeat (first | exact (Kd.R_reads' HO_6.out).2.2 | (with_reducible refine Kd.C_alloc ?_ _) | (with_reducible refine Kd.C_drewN ?_ _) | (with_reducible refine Kd.C_drew ?_)))
     (case aB => exact (by repeat (first | (with_reducible first | exact HB.out | apply below_alloc | apply pw_below_drewN | apply below_drew1 | refine below_set ?_ GE160.out) | exact HB.out)))
     (case aF => exact (fun k_ hk => ⟨Kd.fresh' (Kd.R_lt (by first | exact Grow.rg HO_5.out | exact HO_5.out)) k_ hk, Kd.fresh' (Kd.R_lt (by first | exact Grow.rg HO_6.out | exact HO_6.out)) k_ hk⟩))
     (case aO => exact (by (with_reducible repeat (first | apply Kd.R_alloc | apply Kd.R_drewN | apply Kd.R_drew)); exact Kd.R_mono HO173.out (fun _ hk => ⟨hk.1.2, hk.2⟩)))
     (case aS => exact (below_size (by repeat (first | (with_reducible first | exact HB.out | apply below_alloc | apply pw_below_drewN | apply below_drew1 | refine below_set ?_ GE160.out) | exact HB.out))))
     (case aL => have := LMc17.out; omega)
     intro v175 w26 ho hb hg hat
     rw [← Ny174.out] at ho
     have n0_ := Aside0.mk (Kd.R_after (ok := (fun k_ => some k_ ≠ (.slice Ao27 x6_1.length co27 : Value).ownBlock)) (by first | exact Grow.rg HO_5.out | exact HO_5.out) hg hat)
     have n1_ := Aside0.mk (Kd.R_after (ok := (fun k_ => some k_ ≠ (u5 : Value).ownBlock)) (by first | exact Grow.rg HO_6.out | exact HO_6.out) hg hat)
     have n2_ := Aside0.mk (blk_grown (g := gb160) (o := .cells #[.int .i64 a0_0, .int .i64 a0_1, .int .i64 a0_2] 29 (0, 0)) (by first | exact Grow.bk BK160.out | exact BK160.out) hg (Kd.R_ne HO173.out BK160.out (by decide)))
     have n3_ := Aside0.mk (hb)
     have n4_ := Aside0.mk (ho)
     clear HO_5
     clear HO_6
     clear BK160
     clear HB
     clear HO173
     have HO_5 := n0_
     have HO_6 := n1_
     have BK160 := n2_
     have HB := n3_
     have HO176 := n4_
     clear n0_ n1_ n2_ n3_ n4_
     clear ho hb hg hat
     refine hK.out _ _ ⟨(blk_cell BK160.out 0).trans rfl, (blk_cell BK160.out 1).trans rfl, (blk_cell BK160.out 2).trans rfl⟩ (fun hHeld => ?_)
     clear hK K
     refine norm_ (a' := ?_) ?_ ?_; rotate_left; show Act.put _ (some 32) _ = _; simp only [Cap.pz]; rfl
     refine one_ (i := 5) (N := some 35) zf104 rfl rfl (one_of HT_.out (by kernel_rfl)) (by decide) (fun K hK => ?_)
     refine goes_ Try.func24 (by kernel_rfl) rfl #[.agg #[.int .i64 a0_0, .int .i64 a0_1, .int .i64 a0_2], .int .i64 x7_1] (by rfl) rfl rfl (by (try simp only [List.map_toArray, List.map_cons, List.map_nil]); first | done | rfl | (simp only [List.length_drop, List.length_take]; rfl)) ?_
     with_reducible refine (spec_CodeRow.calls kj7 a0_0 a0_1 a0_2 x7_1 t177 _ A18.out).mono ?_
     rintro e w28 ⟨v178, rfl, ho0, hb⟩
     refine ⟨_, rfl, ?_⟩
     have n0_ := Aside0.mk (Kd.R_elder' (by first | exact Grow.rg HO_5.out | exact HO_5.out) (Kd.R_base ho0) hb)
     have n1_ := Aside0.mk (Kd.R_elder' (by first | exact Grow.rg HO_6.out | exact HO_6.out) (Kd.R_base ho0) hb)
     have n2_ := Aside0.mk (Kd.R_elder' (by first | exact Grow.rg HO176.out | exact HO176.out) (Kd.R_base ho0) hb)
     have n3_ := Aside0.mk (Kd.R_lower (Kd.R_new' (Kd.R_new' (Kd.R_new' ho0 (Kd.R_lt (by first | exact Grow.rg HO_5.out | exact HO_5.out))) (Kd.R_lt (by first | exact Grow.rg HO_6.out | exact HO_6.out))) (Kd.R_lt (by first | exact Grow.rg HO176.out | exact HO176.out))) (below_size (by repeat (first | (with_reducible first | exact HB.out | apply below_alloc | apply pw_below_drewN | apply below_drew1 | refine below_set ?_ GE160.out) | exact HB.out))))
     have n4_ := Aside0.mk (blk_below (g := gb160) (o := .cells #[.int .i64 a0_0, .int .i64 a0_1, .int .i64 a0_2] 29 (0, 0)) (by first | exact Grow.bk BK160.out | exact BK160.out) hb)
     have n5_ := Aside0.mk (below_step (by repeat (first | (with_reducible first | exact HB.out | apply below_alloc | apply pw_below_drewN | apply below_drew1 | refine below_set ?_ GE160.out) | exact HB.out)) hb)
     clear HO_5
     clear HO_6
     clear HO176
     clear BK160
     clear HB
     have HO_5 := n0_
     have HO_6 := n1_
     have HO176 := n2_
     have HO179 := n3_
     have BK160 := n4_
     have HB := n5_
     clear n0_ n1_ n2_ n3_ n4_ n5_
     (try clear hb)
     (try clear hb2)
     (try clear hk)
     (try clear hi)
     (try clear ho0)
     obtain ⟨Ao30, co30, eo30⟩ := Kd.R_slice HO179.out
     (first | subst eo30 | (injection eo30 with f1_ f2_ f3_; have f4_ := f1_.symm; have f5_ := f3_.symm; clear f1_ f2_ f3_; subst f4_; subst f5_))
     refine hK.out _ _ ⟨(blk_cell BK160.out 0).trans rfl, (blk_cell BK160.out 1).trans rfl, (blk_cell BK160.out 2).trans rfl⟩ (fun hHeld => ?_)
     clear hK K
     refine norm_ (a' := ?_) ?_ ?_; rotate_left; show Act.put _ (some 35) _ = _; simp only [Cap.pz]; rfl
     refine one_ (i := 6) (N := some 36) zf105 rfl rfl (one_of HT_.out (by kernel_rfl)) (by decide) (fun K hK => ?_)
     refine Kd.R_append_rows_step (Kd.int .i64) (w0 := w) w.heap.size (by rfl) (.tmp 32) (.tmp 35) 25 2 (.int .i64 0) 8 rfl Try.underlying25 info2 rfl (by decide) (by omega) v175 y174 t177 _ _ _ (fun k_ => some k_ ≠ (u5 : Value).ownBlock ∧ some k_ ≠ (.slice Ao27 x6_1.length co27 : Value).ownBlock ∧ some k_ ≠ (.slice Ao30 t177.length co30 : Value).ownBlock) (fun _ => False) rfl rfl ?aO ?aR (fun _ _ h => h) (fun _ h => h.elim) ?aF ?aB ?aS ?aL ?_
     (case aR => repeat (first | exact (Kd.R_reads' HO179.out).2.2 | (with_reducible refine Kd.C_alloc ?_ _) | (with_reducible refine Kd.C_drewN ?_ _) | (with_reducible refine Kd.C_drew ?_)))
     (case aB => exact (by repeat (first | (with_reducible first | exact HB.out | apply below_alloc | apply pw_below_drewN | apply below_drew1 | refine below_set ?_ GE160.out) | exact HB.out)))
     (case aF => exact (fun k_ hk => ⟨Kd.fresh' (Kd.R_lt (by first | exact Grow.rg HO_5.out | exact HO_5.out)) k_ hk, Kd.fresh' (Kd.R_lt (by first | exact Grow.rg HO_6.out | exact HO_6.out)) k_ hk, Kd.fresh' (Kd.R_lt (by first | exact Grow.rg HO179.out | exact HO179.out)) k_ hk⟩))
     (case aO => exact (by (with_reducible repeat (first | apply Kd.R_alloc | apply Kd.R_drewN | apply Kd.R_drew)); exact Kd.R_mono HO176.out (fun _ hk => ⟨hk.1.1, ⟨hk.1.2, hk.2⟩⟩)))
     (case aS => exact (below_size (by repeat (first | (with_reducible first | exact HB.out | apply below_alloc | apply pw_below_drewN | apply below_drew1 | refine below_set ?_ GE160.out) | exact HB.out))))
     (case aL => have := LMc19.out; omega)
     intro v181 w29 ho hb hg hat
     rw [← Ny180.out] at ho
     have n0_ := Aside0.mk (Kd.R_after (ok := (fun k_ => some k_ ≠ (.slice Ao27 x6_1.length co27 : Value).ownBlock ∧ some k_ ≠ (.slice Ao30 t177.length co30 : Value).ownBlock)) (by (with_reducible repeat (first | apply Kd.R_alloc | apply Kd.R_drewN | apply Kd.R_drew)); exact Kd.R_mono HO_5.out (fun _ hk => ⟨⟨hk.1.1, hk.2⟩, hk.1.2⟩)) hg hat)
     have n1_ := Aside0.mk (Kd.R_after (ok := (fun k_ => some k_ ≠ (u5 : Value).ownBlock ∧ some k_ ≠ (.slice Ao30 t177.length co30 : Value).ownBlock)) (by (with_reducible repeat (first | apply Kd.R_alloc | apply Kd.R_drewN | apply Kd.R_drew)); exact Kd.R_mono HO_6.out (fun _ hk => ⟨⟨hk.1.1, hk.2⟩, hk.1.2⟩)) hg hat)
     have n2_ := Aside0.mk (blk_grown (g := gb160) (o := .cells #[.int .i64 a0_0, .int .i64 a0_1, .int .i64 a0_2] 29 (0, 0)) (by first | exact Grow.bk BK160.out | exact BK160.out) hg (Kd.R_ne HO176.out BK160.out (by decide)))
     have n3_ := Aside0.mk (Kd.R_after (ok := (fun k_ => some k_ ≠ (u5 : Value).ownBlock ∧ some k_ ≠ (.slice Ao27 x6_1.length co27 : Value).ownBlock)) (by (with_reducible repeat (first | apply Kd.R_alloc | apply Kd.R_drewN | apply Kd.R_drew)); exact Kd.R_mono HO179.out (fun _ hk => ⟨⟨hk.1.1.2, hk.1.2⟩, hk.2⟩)) hg hat)
     have n4_ := Aside0.mk (hb)
     have n5_ := Aside0.mk (ho)
     clear HO_5
     clear HO_6
     clear BK160
     clear HO179
     clear HB
     clear HO176
     have HO_5 := n0_
     have HO_6 := n1_
     have BK160 := n2_
     have HO179 := n3_
     have HB := n4_
     have HO182 := n5_
     clear n0_ n1_ n2_ n3_ n4_ n5_
     clear ho hb hg hat
     refine hK.out _ _ ⟨(blk_cell BK160.out 0).trans rfl, (blk_cell BK160.out 1).trans rfl, (blk_cell BK160.out 2).trans rfl⟩ (fun hHeld => ?_)
     clear hK K
     refine norm_ (a' := ?_) ?_ ?_; rotate_left; show Act.put _ (some 36) _ = _; simp only [Cap.pz]; rfl
     refine Cap.pu (v := ?_) (a' := ?_) 7 (some 8) zf106 HT_ rfl rfl (by kernel_rfl) (fun _ _ _ h => h) (Or.inl ⟨by rfl, ?_⟩) ?_ ?_; rotate_left; intro w'; go_simp; with_reducible rfl; rotate_left; simp only [Cap.pz]; rfl
     refine done_ (done_of HT_.out (by kernel_rfl)) ?_
     obtain ⟨Ao31, co31, eo31⟩ := Kd.R_slice HO_5.out
     subst eo31
     have hcz32_0 : w29.cell? ⟨gb160, 0, none⟩ = some (.int .i64 a0_0) := (blk_cell BK160.out 0).trans rfl
     have hcz32_1 : w29.cell? ⟨gb160, 1, none⟩ = some (.int .i64 a0_1) := (blk_cell BK160.out 1).trans rfl
     have hcz32_2 : w29.cell? ⟨gb160, 2, none⟩ = some (.int .i64 a0_2) := (blk_cell BK160.out 2).trans rfl
     have hfz32_0 := blk_frozen BK160.out 0
     have hfz32_1 := blk_frozen BK160.out 1
     have hfz32_2 := blk_frozen BK160.out 2
     obtain ⟨Ao33, co33, eo33⟩ := Kd.R_slice HO182.out
     subst eo33
     try go_wp2_with (first | ((with_reducible refine gate_dst (N := 9) rfl ?_); (try (refine gate_guard (by rfl) ?_; dsimp only)); refine box_event ?hg (N := 9) ?hd (cs := #[.int .i64 0, .int .i64 0, .slice none 0 0]) (t := 48) ?hr ?_; (case hd => rfl); (case hg => rfl); (case hr => first | (go_simp; done) | (go_simp; rfl)); intro gb183 hg w34 hbox hb; have n0_ := Aside0.mk (Kd.R_below (by first | exact Grow.rg HO_5.out | exact HO_5.out) hb); have n1_ := Aside0.mk (Kd.R_below (by first | exact Grow.rg HO_6.out | exact HO_6.out) hb); have n2_ := Aside0.mk (Kd.R_below (by first | exact Grow.rg HO179.out | exact HO179.out) hb); have n3_ := Aside0.mk (Kd.R_below (by first | exact Grow.rg HO182.out | exact HO182.out) hb); have n4_ := Aside0.mk (blk_below (g := gb160) (o := .cells #[.int .i64 a0_0, .int .i64 a0_1, .int .i64 a0_2] 29 (0, 0)) (by first | exact Grow.bk BK160.out | exact BK160.out) hb); have n5_ := Aside0.mk (below_step (by repeat (first | (with_reducible first | exact HB.out | apply below_alloc | apply pw_below_drewN | apply below_drew1 | refine below_set ?_ GE160.out) | exact HB.out)) hb); have n6_ := Aside0.mk (hbox); have n7_ := Aside0.mk ((by rw [hg]; exact (below_size (by repeat (first | (with_reducible first | exact HB.out | apply below_alloc | apply pw_below_drewN | apply below_drew1 | refine below_set ?_ GE160.out) | exact HB.out))) : w.heap.size ≤ gb183)); have n8_ := Aside0.mk ((by rw [hg]; exact (below_size (by repeat (first | (with_reducible first | exact HB.out | apply below_alloc | apply pw_below_drewN | apply below_drew1 | refine below_set ?_ GE160.out) | exact HB.out))) : w.heap.size ≤ gb183)); have n9_ := Aside0.mk ((by rw [hg]; exact Nat.ne_of_lt (blk_lt (g := gb160) (o := .cells #[.int .i64 a0_0, .int .i64 a0_1, .int .i64 a0_2] 29 (0, 0)) (by first | exact Grow.bk BK160.out | exact BK160.out)) : gb160 ≠ gb183)); have n10_ := Aside0.mk ((by rw [hg]; exact Nat.ne_of_gt (blk_lt (g := gb160) (o := .cells #[.int .i64 a0_0, .int .i64 a0_1, .int .i64 a0_2] 29 (0, 0)) (by first | exact Grow.bk BK160.out | exact BK160.out)) : gb183 ≠ gb160)); clear HO_5; clear HO_6; clear HO179; clear HO182; clear BK160; clear HB; have HO_5 := n0_; have HO_6 := n1_; have HO179 := n2_; have HO182 := n3_; have BK160 := n4_; have HB := n5_; have BK183 := n6_; have GW183 := n7_; have GE183 := n8_; have NB160_183 := n9_; have NB183_160 := n10_; clear n0_ n1_ n2_ n3_ n4_ n5_ n6_ n7_ n8_ n9_ n10_; clear hb hbox hg; have hnb35 := NB183_160.out; have hnc35 := NB160_183.out; have hcz36_0 : w34.cell? ⟨gb183, 0, none⟩ = some (.int .i64 0) := (blk_cell BK183.out 0).trans rfl; have hcz36_1 : w34.cell? ⟨gb183, 1, none⟩ = some (.int .i64 0) := (blk_cell BK183.out 1).trans rfl; have hcz36_2 : w34.cell? ⟨gb183, 2, none⟩ = some (.slice none 0 0) := (blk_cell BK183.out 2).trans rfl; have hfz36_0 := blk_frozen BK183.out 0; have hfz36_1 := blk_frozen BK183.out 1; have hfz36_2 := blk_frozen BK183.out 2))
     have n0_ : Aside0 (Kd.R (Kd.int .i64) 2 (((w34.setCell ⟨gb183, 0, none⟩ (.int .i64 (wrap64 ((x5_1.length : Int) + 1)))).setCell ⟨gb183, 1, none⟩ (.int .i64 a0_0)).setCell ⟨gb183, 2, none⟩ (.slice Ao33 y180.length co33)) w.heap.size (fun k_ => some k_ ≠ (.slice Ao27 x6_1.length co27 : Value).ownBlock ∧ some k_ ≠ (.slice Ao30 t177.length co30 : Value).ownBlock ∧ some k_ ≠ (.slice Ao33 y180.length co33 : Value).ownBlock) (.slice Ao31 x5_1.length co31) x5_1) := ⟨by (with_reducible repeat (first | apply Kd.R_alloc | apply Kd.R_drewN | apply Kd.R_drew)); exact Kd.R_mono (Kd.R_far (p := ⟨gb183, 2, none⟩) (Kd.R_far (p := ⟨gb183, 1, none⟩) (Kd.R_far (p := ⟨gb183, 0, none⟩) (Kd.R_types HO_5.out BK183.out (by decide)) (fun _ hk => hk.2) (.int .i64 (wrap64 ((x5_1.length : Int) + 1)))) (fun _ hk => hk.2) (.int .i64 a0_0)) (fun _ hk => hk.2) (.slice Ao33 y180.length co33)) (fun _ hk => ⟨hk.1.1.1, ⟨hk.1.1.2, hk.1.2⟩⟩)⟩
     have n1_ : Aside0 (Kd.R (Kd.int .i64) 2 (((w34.setCell ⟨gb183, 0, none⟩ (.int .i64 (wrap64 ((x5_1.length : Int) + 1)))).setCell ⟨gb183, 1, none⟩ (.int .i64 a0_0)).setCell ⟨gb183, 2, none⟩ (.slice Ao33 y180.length co33)) w.heap.size (fun k_ => some k_ ≠ (.slice Ao31 x5_1.length co31 : Value).ownBlock ∧ some k_ ≠ (.slice Ao30 t177.length co30 : Value).ownBlock ∧ some k_ ≠ (.slice Ao33 y180.length co33 : Value).ownBlock) (.slice Ao27 x6_1.length co27) x6_1) := ⟨by (with_reducible repeat (first | apply Kd.R_alloc | apply Kd.R_drewN | apply Kd.R_drew)); exact Kd.R_mono (Kd.R_far (p := ⟨gb183, 2, none⟩) (Kd.R_far (p := ⟨gb183, 1, none⟩) (Kd.R_far (p := ⟨gb183, 0, none⟩) (Kd.R_types HO_6.out BK183.out (by decide)) (fun _ hk => hk.2) (.int .i64 (wrap64 ((x5_1.length : Int) + 1)))) (fun _ hk => hk.2) (.int .i64 a0_0)) (fun _ hk => hk.2) (.slice Ao33 y180.length co33)) (fun _ hk => ⟨hk.1.1.1, ⟨hk.1.1.2, hk.1.2⟩⟩)⟩
     have n2_ : Aside0 (Kd.R (Kd.int .i64) 2 (((w34.setCell ⟨gb183, 0, none⟩ (.int .i64 (wrap64 ((x5_1.length : Int) + 1)))).setCell ⟨gb183, 1, none⟩ (.int .i64 a0_0)).setCell ⟨gb183, 2, none⟩ (.slice Ao33 y180.length co33)) w.heap.size (fun k_ => some k_ ≠ (.slice Ao31 x5_1.length co31 : Value).ownBlock ∧ some k_ ≠ (.slice Ao27 x6_1.length co27 : Value).ownBlock ∧ some k_ ≠ (.slice Ao33 y180.length co33 : Value).ownBlock) (.slice Ao30 t177.length co30) t177) := ⟨by (with_reducible repeat (first | apply Kd.R_alloc | apply Kd.R_drewN | apply Kd.R_drew)); exact Kd.R_mono (Kd.R_far (p := ⟨gb183, 2, none⟩) (Kd.R_far (p := ⟨gb183, 1, none⟩) (Kd.R_far (p := ⟨gb183, 0, none⟩) (Kd.R_types HO179.out BK183.out (by decide)) (fun _ hk => hk.2) (.int .i64 (wrap64 ((x5_1.length : Int) + 1)))) (fun _ hk => hk.2) (.int .i64 a0_0)) (fun _ hk => hk.2) (.slice Ao33 y180.length co33)) (fun _ hk => ⟨hk.1.1.1, ⟨hk.1.1.2, hk.1.2⟩⟩)⟩
     have n3_ : Aside0 (Kd.R (Kd.int .i64) 2 (((w34.setCell ⟨gb183, 0, none⟩ (.int .i64 (wrap64 ((x5_1.length : Int) + 1)))).setCell ⟨gb183, 1, none⟩ (.int .i64 a0_0)).setCell ⟨gb183, 2, none⟩ (.slice Ao33 y180.length co33)) w.heap.size (fun k_ => some k_ ≠ (.slice Ao31 x5_1.length co31 : Value).ownBlock ∧ some k_ ≠ (.slice Ao27 x6_1.length co27 : Value).ownBlock ∧ some k_ ≠ (.slice Ao30 t177.length co30 : Value).ownBlock) (.slice Ao33 y180.length co33) y180) := ⟨by (with_reducible repeat (first | apply Kd.R_alloc | apply Kd.R_drewN | apply Kd.R_drew)); exact Kd.R_mono (Kd.R_far (p := ⟨gb183, 2, none⟩) (Kd.R_far (p := ⟨gb183, 1, none⟩) (Kd.R_far (p := ⟨gb183, 0, none⟩) (Kd.R_types HO182.out BK183.out (by decide)) (fun _ hk => hk.2) (.int .i64 (wrap64 ((x5_1.length : Int) + 1)))) (fun _ hk => hk.2) (.int .i64 a0_0)) (fun _ hk => hk.2) (.slice Ao33 y180.length co33)) (fun _ hk => ⟨hk.1.1, ⟨hk.1.2.1, hk.1.2.2⟩⟩)⟩
     have n4_ : Aside0 ((((w34.setCell ⟨gb183, 0, none⟩ (.int .i64 (wrap64 ((x5_1.length : Int) + 1)))).setCell ⟨gb183, 1, none⟩ (.int .i64 a0_0)).setCell ⟨gb183, 2, none⟩ (.slice Ao33 y180.length co33)).heap[gb160]? = some (.cells #[.int .i64 a0_0, .int .i64 a0_1, .int .i64 a0_2] 29 (0, 0))) := ⟨by (with_reducible repeat (first | refine blk_drewN ?_ _ | refine blk_drew ?_ | refine blk_alloc ?_ _)); refine blk_far ?_ NB160_183.out _; (with_reducible repeat (first | refine blk_drewN ?_ _ | refine blk_drew ?_ | refine blk_alloc ?_ _)); refine blk_far ?_ NB160_183.out _; (with_reducible repeat (first | refine blk_drewN ?_ _ | refine blk_drew ?_ | refine blk_alloc ?_ _)); refine blk_far ?_ NB160_183.out _; (with_reducible repeat (first | refine blk_drewN ?_ _ | refine blk_drew ?_ | refine blk_alloc ?_ _)); exact BK160.out⟩
     have n5_ : Aside0 ((((w34.setCell ⟨gb183, 0, none⟩ (.int .i64 (wrap64 ((x5_1.length : Int) + 1)))).setCell ⟨gb183, 1, none⟩ (.int .i64 a0_0)).setCell ⟨gb183, 2, none⟩ (.slice Ao33 y180.length co33)).heap[gb183]? = some (.cells #[.int .i64 (wrap64 ((x5_1.length : Int) + 1)), .int .i64 a0_0, .slice Ao33 y180.length co33] 48 (0, 0))) := ⟨by (with_reducible repeat (first | refine blk_drewN ?_ _ | refine blk_drew ?_ | refine blk_alloc ?_ _)); refine blk_put (cs := #[.int .i64 (wrap64 ((x5_1.length : Int) + 1)), .int .i64 a0_0, .slice none 0 0]) ?_ 2 _ rfl; (with_reducible repeat (first | refine blk_drewN ?_ _ | refine blk_drew ?_ | refine blk_alloc ?_ _)); refine blk_put (cs := #[.int .i64 (wrap64 ((x5_1.length : Int) + 1)), .int .i64 0, .slice none 0 0]) ?_ 1 _ rfl; (with_reducible repeat (first | refine blk_drewN ?_ _ | refine blk_drew ?_ | refine blk_alloc ?_ _)); refine blk_put (cs := #[.int .i64 0, .int .i64 0, .slice none 0 0]) ?_ 0 _ rfl; (with_reducible repeat (first | refine blk_drewN ?_ _ | refine blk_drew ?_ | refine blk_alloc ?_ _)); exact BK183.out⟩
     have n6_ : Aside0 (Below w.heap.size w (((w34.setCell ⟨gb183, 0, none⟩ (.int .i64 (wrap64 ((x5_1.length : Int) + 1)))).setCell ⟨gb183, 1, none⟩ (.int .i64 a0_0)).setCell ⟨gb183, 2, none⟩ (.slice Ao33 y180.length co33))) := ⟨by repeat (first | (with_reducible first | exact HB.out | apply below_alloc | apply pw_below_drewN | apply below_drew1 | refine below_set ?_ GE160.out | refine below_set ?_ GE183.out) | exact HB.out)⟩
     (try clear HO_5)
     (try clear HO_6)
     (try clear HO179)
     (try clear HO182)
     (try clear BK160)
     (try clear BK183)
     (try clear HB)
     generalize (((w34.setCell ⟨gb183, 0, none⟩ (.int .i64 (wrap64 ((x5_1.length : Int) + 1)))).setCell ⟨gb183, 1, none⟩ (.int .i64 a0_0)).setCell ⟨gb183, 2, none⟩ (.slice Ao33 y180.length co33)) = w37 at n0_ n1_ n2_ n3_ n4_ n5_ n6_ ⊢
     have HO_5 := n0_
     have HO_6 := n1_
     have HO179 := n2_
     have HO182 := n3_
     have BK160 := n4_
     have BK183 := n5_
     have HB := n6_
     clear n0_ n1_ n2_ n3_ n4_ n5_ n6_
     have n0_ := Aside0.mk (Kd.R_drew HO_5.out)
     have n1_ := Aside0.mk (Kd.R_drew HO_6.out)
     have n2_ := Aside0.mk (Kd.R_drew HO179.out)
     have n3_ := Aside0.mk (Kd.R_drew HO182.out)
     have n4_ := Aside0.mk (blk_drew BK160.out)
     have n5_ := Aside0.mk (blk_drew BK183.out)
     have n6_ := Aside0.mk (below_drew1 HB.out)
     clear HO_5
     clear HO_6
     clear HO179
     clear HO182
     clear BK160
     clear BK183
     clear HB
     have HO_5 := n0_
     have HO_6 := n1_
     have HO179 := n2_
     have HO182 := n3_
     have BK160 := n4_
     have BK183 := n5_
     have HB := n6_
     clear n0_ n1_ n2_ n3_ n4_ n5_ n6_
     refine start_ (n := 5) (S := fun w' => w'.cell? ⟨gb183, 0, none⟩ = some (.int .i64 (wrap64 ((x5_1.length : Int) + 1))) ∧ w'.cell? ⟨gb183, 1, none⟩ = some (.int .i64 a0_0) ∧ w'.cell? ⟨gb183, 2, none⟩ = some (.slice Ao33 y180.length co33)) (ds := []) #[false, false, false, false, false] (by kernel_rfl) rfl rfl ⟨(blk_cell BK183.out 0).trans rfl, (blk_cell BK183.out 1).trans rfl, (blk_cell BK183.out 2).trans rfl⟩ (fun hHeld => ?_)
     generalize w37.drew = w38 at HO_5 HO_6 HO179 HO182 BK160 BK183 HB hHeld ⊢
     refine pure_ (i := 2) (N := some 46) (v := ?_) (a' := ?_) #[false, false, true, false, false] rfl rfl (by kernel_rfl) (fun _ _ _ h => h) (Or.inl ⟨by rfl, ?_⟩) ?_ ?_; rotate_left; intro w'; go_simp; with_reducible rfl; rotate_left; simp only [Cap.pz]; rfl
     refine take_ (i := 0) (N := some 44) (v := ?_) (a' := ?_) #[true, false, true, false, false] rfl rfl (by kernel_rfl) (fun _ _ _ h => h) (Or.inl ⟨by rfl, ?_⟩) hHeld ?_ ?_; rotate_left; rintro w' ⟨s0, s1, s2⟩; go_simp; with_reducible rfl; rotate_left; simp only [Cap.pz]; rfl
     refine take_ (i := 3) (N := some 47) (v := ?_) (a' := ?_) #[true, false, true, true, false] rfl rfl (by kernel_rfl) (fun _ _ _ h => h) (Or.inl ⟨by rfl, ?_⟩) hHeld ?_ ?_; rotate_left; rintro w' ⟨s0, s1, s2⟩; go_simp; with_reducible rfl; rotate_left; simp only [Cap.pz]; rfl
     refine one_ (i := 1) (N := some 45) #[true, true, true, true, false] rfl rfl (by kernel_rfl) (by decide) (fun K hK => ?_)
     refine goes_ Try.func25 (by kernel_rfl) rfl #[.agg #[.int .i64 (wrap64 ((x5_1.length : Int) + 1)), .int .i64 a0_0, .slice Ao33 y180.length co33]] (by rfl) rfl rfl (by (try simp only [List.map_toArray, List.map_cons, List.map_nil]); first | done | rfl | (simp only [List.length_drop, List.length_take]; rfl)) ?_
     with_reducible refine (spec_l03Rank.calls kj7 (wrap64 ((x5_1.length : Int) + 1)) a0_0 _ _ y180 t184 _ ?side1 ?side2 A20.out).mono ?_
     (case side1 => repeat (first | exact (Kd.R_reads' HO182.out).2.2 | (with_reducible refine Kd.C_alloc ?_ _) | (with_reducible refine Kd.C_drewN ?_ _) | (with_reducible refine Kd.C_drew ?_)))
     (case side2 => exact (Kd.R_reads' HO182.out).2.1)
     rintro e w39 ⟨rfl, hb⟩
     refine ⟨_, rfl, ?_⟩
     have n0_ := Aside0.mk (Kd.R_below (by first | exact Grow.rg HO_5.out | exact HO_5.out) hb)
     have n1_ := Aside0.mk (Kd.R_below (by first | exact Grow.rg HO_6.out | exact HO_6.out) hb)
     have n2_ := Aside0.mk (Kd.R_below (by first | exact Grow.rg HO179.out | exact HO179.out) hb)
     have n3_ := Aside0.mk (Kd.R_below (by first | exact Grow.rg HO182.out | exact HO182.out) hb)
     have n4_ := Aside0.mk (blk_below (g := gb160) (o := .cells #[.int .i64 a0_0, .int .i64 a0_1, .int .i64 a0_2] 29 (0, 0)) (by first | exact Grow.bk BK160.out | exact BK160.out) hb)
     have n5_ := Aside0.mk (blk_below (g := gb183) (o := .cells #[.int .i64 (wrap64 ((x5_1.length : Int) + 1)), .int .i64 a0_0, .slice Ao33 y180.length co33] 48 (0, 0)) (by first | exact Grow.bk BK183.out | exact BK183.out) hb)
     have n6_ := Aside0.mk (below_step (by repeat (first | (with_reducible first | exact HB.out | apply below_alloc | apply pw_below_drewN | apply below_drew1 | refine below_set ?_ GE160.out | refine below_set ?_ GE183.out) | exact HB.out)) hb)
     clear HO_5
     clear HO_6
     clear HO179
     clear HO182
     clear BK160
     clear BK183
     clear HB
     have HO_5 := n0_
     have HO_6 := n1_
     have HO179 := n2_
     have HO182 := n3_
     have BK160 := n4_
     have BK183 := n5_
     have HB := n6_
     clear n0_ n1_ n2_ n3_ n4_ n5_ n6_
     (try clear hb)
     (try clear hb2)
     (try clear hk)
     (try clear hi)
     refine hK.out _ _ ⟨(blk_cell BK183.out 0).trans rfl, (blk_cell BK183.out 1).trans rfl, (blk_cell BK183.out 2).trans rfl⟩ (fun hHeld => ?_)
     clear hK K
     refine norm_ (a' := ?_) ?_ ?_; rotate_left; show Act.put _ (some 45) _ = _; simp only [Cap.pz]; rfl
     refine pure_ (i := 4) (N := some 48) (v := ?_) (a' := ?_) #[true, true, true, true, true] rfl rfl (by kernel_rfl) (fun _ _ _ h => h) (Or.inl ⟨by rfl, ?_⟩) ?_ ?_; rotate_left; intro w'; go_simp; with_reducible rfl; rotate_left; simp only [Cap.pz]; rfl
     refine done_ (by kernel_rfl) ?_
     try go_wp2_with (first | ((with_reducible refine gate_builtin (b := .append) (xs := #[.tmp 49, .tmp 51]) rfl ?_); (try (refine gate_guard (by rfl) ?_; dsimp only)); at_builtin; refine Kd.R_append (Kd.int .i64) (w0 := w) w.heap.size rfl (.tmp 49) (.tmp 51) 25 2 (.int .i64 0) 8 rfl Try.underlying25 info2 rfl (by decide) (by omega) (.slice Ao31 x5_1.length co31) x5_1 x7_1 [.int .i64 x7_1] (fun k_ => some k_ ≠ (.slice Ao27 x6_1.length co27 : Value).ownBlock ∧ some k_ ≠ (.slice Ao30 t177.length co30 : Value).ownBlock ∧ some k_ ≠ (.slice Ao33 y180.length co33 : Value).ownBlock) (fun _ => False) rfl rfl ?aP (fun _ hk => hk.elim) ?aF ?aO ?aB ?aS ?aL ?_; (case aP => exact rfl); (case aB => exact (by repeat (first | (with_reducible first | exact HB.out | apply below_alloc | apply pw_below_drewN | apply below_drew1 | refine below_set ?_ GE160.out | refine below_set ?_ GE183.out) | exact HB.out))); (case aF => exact (fun k_ hk => ⟨Kd.fresh' (Kd.R_lt (by first | exact Grow.rg HO_6.out | exact HO_6.out)) k_ hk, Kd.fresh' (Kd.R_lt (by first | exact Grow.rg HO179.out | exact HO179.out)) k_ hk, Kd.fresh' (Kd.R_lt (by first | exact Grow.rg HO182.out | exact HO182.out)) k_ hk⟩)); (case aO => exact (by first | exact Grow.rg HO_5.out | exact HO_5.out)); (case aS => exact (below_size (by repeat (first | (with_reducible first | exact HB.out | apply below_alloc | apply pw_below_drewN | apply below_drew1 | refine below_set ?_ GE160.out | refine below_set ?_ GE183.out) | exact HB.out)))); (case aL => have := LMc22.out; omega); intro v186 w40 ho hb hg hat; rw [← Ny185.out] at ho; have n0_ := Aside0.mk (Kd.R_after (ok := (fun k_ => some k_ ≠ (.slice Ao30 t177.length co30 : Value).ownBlock ∧ some k_ ≠ (.slice Ao33 y180.length co33 : Value).ownBlock)) (by (with_reducible repeat (first | apply Kd.R_alloc | apply Kd.R_drewN | apply Kd.R_drew)); exact Kd.R_mono HO_6.out (fun _ hk => ⟨⟨hk.2.1, hk.2.2⟩, hk.1⟩)) hg hat); have n1_ := Aside0.mk (blk_grown (g := gb160) (o := .cells #[.int .i64 a0_0, .int .i64 a0_1, .int .i64 a0_2] 29 (0, 0)) (by first | exact Grow.bk BK160.out | exact BK160.out) hg (Kd.R_ne HO_5.out BK160.out (by decide))); have n2_ := Aside0.mk (Kd.R_after (ok := (fun k_ => some k_ ≠ (.slice Ao27 x6_1.length co27 : Value).ownBlock ∧ some k_ ≠ (.slice Ao33 y180.length co33 : Value).ownBlock)) (by (with_reducible repeat (first | apply Kd.R_alloc | apply Kd.R_drewN | apply Kd.R_drew)); exact Kd.R_mono HO179.out (fun _ hk => ⟨⟨hk.2.1, hk.2.2⟩, hk.1⟩)) hg hat); have n3_ := Aside0.mk (Kd.R_after (ok := (fun k_ => some k_ ≠ (.slice Ao27 x6_1.length co27 : Value).ownBlock ∧ some k_ ≠ (.slice Ao30 t177.length co30 : Value).ownBlock)) (by (with_reducible repeat (first | apply Kd.R_alloc | apply Kd.R_drewN | apply Kd.R_drew)); exact Kd.R_mono HO182.out (fun _ hk => ⟨⟨hk.2.1, hk.2.2⟩, hk.1⟩)) hg hat); have n4_ := Aside0.mk (blk_grown (g := gb183) (o := .cells #[.int .i64 (wrap64 ((x5_1.length : Int) + 1)), .int .i64 a0_0, .slice Ao33 y180.length co33] 48 (0, 0)) (by first | exact Grow.bk BK183.out | exact BK183.out) hg (Kd.R_ne HO_5.out BK183.out (by decide))); have n5_ := Aside0.mk (hb); have n6_ := Aside0.mk (ho); clear HO_6; clear BK160; clear HO179; clear HO182; clear BK183; clear HB; clear HO_5; have HO_6 := n0_; have BK160 := n1_; have HO179 := n2_; have HO182 := n3_; have BK183 := n4_; have HB := n5_; have HO187 := n6_; clear n0_ n1_ n2_ n3_ n4_ n5_ n6_; clear ho hb hg hat))
     go_roundg kj7
     case measure => have := HK1.out; have := HJ7.out; omega
     case rel => exact ⟨(y185), (y180), (wrap64 (x7_1 + 1)), (by first | rfl | (simp; done) | (simp [*]; done)), H', ⟨by have := HK1.out; have := HJ7.out; omega⟩, ⟨by (with_reducible repeat (first | apply Kd.R_alloc | apply Kd.R_drewN | apply Kd.R_drew)); exact Kd.R_mono HO187.out (fun _ hk => hk.2.2)⟩, ⟨by (with_reducible repeat (first | apply Kd.R_alloc | apply Kd.R_drewN | apply Kd.R_drew)); exact Kd.R_mono HO182.out (fun _ hk => hk.2)⟩, ⟨by first | exact Grow.bk BK160.out | exact BK160.out⟩, ⟨by repeat (first | (with_reducible first | exact HB.out | apply below_alloc | apply pw_below_drewN | apply below_drew1 | refine below_set ?_ GE160.out | refine below_set ?_ GE183.out) | exact HB.out)⟩⟩

end Go.Proofs.Yteflpfkfmohenaa.QFnExactRepairPlan
