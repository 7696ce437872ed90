-- A text of this session, printed by a program of its own (wip/tools: xpatch.py, xprint.sh, mkq.py). No condition.
import Derived.RangeFuncNested
import Derived.RangeFuncBound
import Derived.RangeFuncCalls
import Derived.RangeFuncLeaves
import Derived.RangeFuncBox
import Derived.Shelf.Abstract
import Derived.Shelf.RegionOpen
import Derived.WalkKit
import Derived.OwnWalkIn
import Derived.TacticsInMore
import Derived.LoopNIn
import Derived.LoopIn
import Derived.RegionIn
import Derived.BigRegionIn
import Derived.Maps.OwnIn
import Derived.Test.YtcpmlelejlmpdaaQFnExactRangeReadsx0
import Derived.Test.YtcpmlelejlmpdaaQFnExactRangeReadsx1
namespace Go.Proofs.Ytcpmlelejlmpdaa.QFnExactRangeReads
open Go.RowKit Go.Proofs.YtcpmlelejlmpdaaW.PrintWords Go.Proofs.YtcpmlelejlmpdaaW.PrintLast Go.Proofs.YtcpmlelejlmpdaaW.PrintMore
attribute [local go_sem] max2_int min2_int max_two min_two max_three min_three max_four min_four   -- for this text's walks alone
set_option linter.unusedVariables false
set_option linter.unusedSimpArgs false

/-! ### impl_StripeCount: function 87 -/
def impl_StripeCount.j0 : Nat → Int → Int → Bool → Int → Int → Int → Option (Int)
  | 0, _, _, _, _, _, _ => none
  | k + 1, x1, x2, x26, x109000, x109001, x109002 => if x26 = true then (some (-1)) else (if (wrap64 (x109000 * x1)) = 0 then (none) else (if (wrap64 (Int.tdiv (wrap64 ((wrap64 (x2 + (wrap64 (x109000 * x1)))) - 1)) (wrap64 (x109000 * x1)))) > 200 then (some (-1)) else (some (wrap64 (Int.tdiv (wrap64 ((wrap64 (x2 + (wrap64 (x109000 * x1)))) - 1)) (wrap64 (x109000 * x1)))))))
def impl_StripeCount.f (k : Nat) (a0_0 : Int) (a0_1 : Int) (a0_2 : Int) (a1 : Int) (a2 : Int) : Option (Int) := (impl_CodeFault.f a0_0 a0_1 a0_2).bind fun t109 => (if t109 = 0 then (if a1 < 1 then (impl_StripeCount.j0 k a1 a2 true a0_0 a0_1 a0_2) else (if a1 > 4096 then (impl_StripeCount.j0 k a1 a2 true a0_0 a0_1 a0_2) else (if a2 < 0 then (impl_StripeCount.j0 k a1 a2 true a0_0 a0_1 a0_2) else (impl_StripeCount.j0 k a1 a2 (decide (a2 > 100000)) a0_0 a0_1 a0_2)))) else (impl_StripeCount.j0 k a1 a2 true a0_0 a0_1 a0_2))
theorem impl_StripeCount.mono_l : ∀ k, (∀ y0 y1 y2 y3 y4 y5, LeO (impl_StripeCount.j0 k y0 y1 y2 y3 y4 y5) (impl_StripeCount.j0 (k + 1) y0 y1 y2 y3 y4 y5))
  | 0 => fun _ _ _ _ _ _ r h => by simp [impl_StripeCount.j0] at h
  | k + 1 => by
    have ih0 := impl_StripeCount.mono_l k
    · intro y0 y1 y2 y3 y4 y5
      unfold impl_StripeCount.j0
      repeat' first
      | (with_reducible exact ih0 _ _ _ _ _ _)
      | (with_reducible exact LeO.refl _)
      | (with_reducible exact LeO.none _)
      | (with_reducible refine LeO.ite ?_ ?_)
      | (with_reducible refine LeO.bind ?_ (fun _ => ?_))
      | exact ih0 _ _ _ _ _ _
      | exact LeO.none _
      | refine LeO.ite ?_ ?_
      | refine LeO.bind ?_ (fun _ => ?_)
theorem impl_StripeCount.mono : ∀ a0 a1 a2 a3 a4 k, LeO (impl_StripeCount.f k a0 a1 a2 a3 a4) (impl_StripeCount.f (k + 1) a0 a1 a2 a3 a4) := by
  intro a0 a1 a2 a3 a4 k
  have ih0 := impl_StripeCount.mono_l k
  unfold impl_StripeCount.f
  repeat' first
      | (with_reducible exact ih0 _ _ _ _ _ _)
      | (with_reducible exact LeO.refl _)
      | (with_reducible exact LeO.none _)
      | (with_reducible refine LeO.ite ?_ ?_)
      | (with_reducible refine LeO.bind ?_ (fun _ => ?_))
      | exact ih0 _ _ _ _ _ _
      | exact LeO.none _
      | refine LeO.ite ?_ ?_
      | refine LeO.bind ?_ (fun _ => ?_)
set_option maxHeartbeats 8000000 in
set_option maxRecDepth 100000 in
theorem impl_StripeCount.calls (k : Nat) (a0_0 : Int) (a0_1 : Int) (a0_2 : Int) (a1 : Int) (a2 : Int) (r : Int) (w : World) (h : impl_StripeCount.f k a0_0 a0_1 a0_2 a1 a2 = some r) :
    Calls Try.prog 87 #[.agg #[.int .i64 a0_0, .int .i64 a0_1, .int .i64 a0_2], .int .i64 a1, .int .i64 a2] w fun e w' => e = .returned (.int .i64 r) ∧ Below w.heap.size w w' := by
  have hu26 := Try.underlying26
  have HB := Aside0.mk (Below.refl w.heap.size w)
  have H : ((impl_CodeFault.f a0_0 a0_1 a0_2).bind fun t109 => (if t109 = 0 then (if a1 < 1 then (impl_StripeCount.j0 k a1 a2 true a0_0 a0_1 a0_2) else (if a1 > 4096 then (impl_StripeCount.j0 k a1 a2 true a0_0 a0_1 a0_2) else (if a2 < 0 then (impl_StripeCount.j0 k a1 a2 true a0_0 a0_1 a0_2) else (impl_StripeCount.j0 k a1 a2 (decide (a2 > 100000)) a0_0 a0_1 a0_2)))) else (impl_StripeCount.j0 k a1 a2 true a0_0 a0_1 a0_2))) = some r := h
  clear h
  have HC4 := Aside0.mk H
  clear H
  go_enter Try.func87, Try.ntmps87
  go_upto_region 1 with (first | ((with_reducible refine gate_dst (N := 3) rfl ?_); refine box_event ?hg (N := 3) ?hd (cs := #[.int .i64 a0_0, .int .i64 a0_1, .int .i64 a0_2]) (t := 26) ?hr ?_; (case hd => rfl); (case hg => rfl); (case hr => first | (go_simp; done) | (go_simp; rfl)); intro gb108 hg w5 hbox hb; have n0_ := Aside0.mk (below_step (by repeat (first | (with_reducible first | exact HB.out | apply below_alloc | apply pw_below_drewN | apply below_drew1) | exact HB.out)) hb); have n1_ := Aside0.mk (hbox); have n2_ := Aside0.mk ((by rw [hg]; exact (below_size (by repeat (first | (with_reducible first | exact HB.out | apply below_alloc | apply pw_below_drewN | apply below_drew1) | exact HB.out))) : w.heap.size ≤ gb108)); have n3_ := Aside0.mk ((by rw [hg]; exact (below_size (by repeat (first | (with_reducible first | exact HB.out | apply below_alloc | apply pw_below_drewN | apply below_drew1) | exact HB.out))) : w.heap.size ≤ gb108)); clear HB; have HB := n0_; have BK108 := n1_; have GW108 := n2_; have GE108 := n3_; clear n0_ n1_ n2_ n3_; clear hb hbox hg))
  (try simp only [Act.put, List.setIfInBounds_toArray, List.set_cons_zero, List.set_cons_succ])
  go_cut [26] (fun v26 wc => ∃ (kq : Nat) (x26_3 : Bool), v26 = .bool x26_3 ∧ Aside0 (impl_StripeCount.j0 kq a1 a2 x26_3 a0_0 a0_1 a0_2 = some r) ∧ Aside0 (kq ≤ k) ∧ Aside0 (wc.heap[gb108]? = some (.cells #[.int .i64 a0_0, .int .i64 a0_1, .int .i64 a0_2] 26 (0, 0))) ∧ Aside0 (Below w.heap.size w wc))
  case first =>
    have H := HC4.out
    clear HC4
    replace H := Option.bind_eq_some_iff.mp H
    obtain ⟨t109, A60, H⟩ := H
    replace H : (if t109 = 0 then (if a1 < 1 then (impl_StripeCount.j0 k a1 a2 true a0_0 a0_1 a0_2) else (if a1 > 4096 then (impl_StripeCount.j0 k a1 a2 true a0_0 a0_1 a0_2) else (if a2 < 0 then (impl_StripeCount.j0 k a1 a2 true a0_0 a0_1 a0_2) else (impl_StripeCount.j0 k a1 a2 (decide (a2 > 100000)) a0_0 a0_1 a0_2)))) else (impl_StripeCount.j0 k a1 a2 true a0_0 a0_1 a0_2)) = some r := H
    have A6 := Aside0.mk A60
    clear A60
    by_cases c7 : t109 = 0
    · rw [if_pos c7] at H
      have c7b0 : (t109 == 0) = true := beq_iff_eq.mpr c7
      have c7b1 : (t109 != 0) = false := bne_eq_false_iff_eq.mpr c7
      clear c7
      (first | rw [c7b0] | (simp only [i64_w, i32_w]; rw [c7b0]) | skip)
      by_cases c8 : a1 < 1
      · rw [if_pos c8] at H
        have c8b0 : decide (a1 < 1) = true := decide_eq_true c8
        clear c8
        have H' := Aside0.mk H
        clear H
        have hcz9_0 : w5.cell? ⟨gb108, 0, none⟩ = some (.int .i64 a0_0) := (blk_cell BK108.out 0).trans rfl
        have hcz9_1 : w5.cell? ⟨gb108, 1, none⟩ = some (.int .i64 a0_1) := (blk_cell BK108.out 1).trans rfl
        have hcz9_2 : w5.cell? ⟨gb108, 2, none⟩ = some (.int .i64 a0_2) := (blk_cell BK108.out 2).trans rfl
        have hfz9_0 := blk_frozen BK108.out 0
        have hfz9_1 := blk_frozen BK108.out 1
        have hfz9_2 := blk_frozen BK108.out 2
        go_wp2_with (first | ((with_reducible refine gate_callee (f := 64) rfl ?_); refine goesL_ (some 9) rfl rfl Try.func64 (by kernel_rfl) rfl #[.agg #[.int .i64 a0_0, .int .i64 a0_1, .int .i64 a0_2]] rfl (by (try simp only [List.map_toArray, List.map_cons, List.map_nil]); first | done | rfl | (simp only [List.length_drop, List.length_take]; rfl)) ?_; (with_reducible refine (impl_CodeFault.calls a0_0 a0_1 a0_2 t109 _ A6.out).mono ?_); rintro e w10 ⟨rfl, hb⟩; refine ⟨_, rfl, ?_⟩; have n0_ := Aside0.mk (blk_below (g := gb108) (o := .cells #[.int .i64 a0_0, .int .i64 a0_1, .int .i64 a0_2] 26 (0, 0)) (by (with_reducible repeat (first | refine blk_drewN ?_ _ | refine blk_drew ?_ | refine blk_alloc ?_ _)); exact BK108.out) hb); have n1_ := Aside0.mk (below_step (by repeat (first | (with_reducible first | exact HB.out | apply below_alloc | apply pw_below_drewN | apply below_drew1 | refine below_set ?_ GE108.out) | exact HB.out)) hb); clear BK108; clear HB; have BK108 := n0_; have HB := n1_; clear n0_ n1_; (try clear hb); (try clear hb2); (try clear hk); (try clear hi)))
        go_meet
        case rel => exact ⟨_, (true), (by first | rfl | (simp; done) | (simp [*]; done)), H', ⟨by first | omega | exact Nat.le_refl _⟩, ⟨by (with_reducible repeat (first | refine blk_drewN ?_ _ | refine blk_drew ?_ | refine blk_alloc ?_ _)); exact BK108.out⟩, ⟨by repeat (first | (with_reducible first | exact HB.out | apply below_alloc | apply pw_below_drewN | apply below_drew1 | refine below_set ?_ GE108.out) | exact HB.out)⟩⟩
      · rw [if_neg c8] at H
        have c8b0 : decide (a1 < 1) = false := decide_eq_false c8
        clear c8
        by_cases c11 : a1 > 4096
        · rw [if_pos c11] at H
          have c11b0 : decide (4096 < a1) = true := decide_eq_true c11
          clear c11
          have H' := Aside0.mk H
          clear H
          have hcz12_0 : w5.cell? ⟨gb108, 0, none⟩ = some (.int .i64 a0_0) := (blk_cell BK108.out 0).trans rfl
          have hcz12_1 : w5.cell? ⟨gb108, 1, none⟩ = some (.int .i64 a0_1) := (blk_cell BK108.out 1).trans rfl
          have hcz12_2 : w5.cell? ⟨gb108, 2, none⟩ = some (.int .i64 a0_2) := (blk_cell BK108.out 2).trans rfl
          have hfz12_0 := blk_frozen BK108.out 0
          have hfz12_1 := blk_frozen BK108.out 1
          have hfz12_2 := blk_frozen BK108.out 2
          go_wp2_with (first | ((with_reducible refine gate_callee (f := 64) rfl ?_); refine goesL_ (some 9) rfl rfl Try.func64 (by kernel_rfl) rfl #[.agg #[.int .i64 a0_0, .int .i64 a0_1, .int .i64 a0_2]] rfl (by (try simp only [List.map_toArray, List.map_cons, List.map_nil]); first | done | rfl | (simp only [List.length_drop, List.length_take]; rfl)) ?_; (with_reducible refine (impl_CodeFault.calls a0_0 a0_1 a0_2 t109 _ A6.out).mono ?_); rintro e w13 ⟨rfl, hb⟩; refine ⟨_, rfl, ?_⟩; have n0_ := Aside0.mk (blk_below (g := gb108) (o := .cells #[.int .i64 a0_0, .int .i64 a0_1, .int .i64 a0_2] 26 (0, 0)) (by (with_reducible repeat (first | refine blk_drewN ?_ _ | refine blk_drew ?_ | refine blk_alloc ?_ _)); exact BK108.out) hb); have n1_ := Aside0.mk (below_step (by repeat (first | (with_reducible first | exact HB.out | apply below_alloc | apply pw_below_drewN | apply below_drew1 | refine below_set ?_ GE108.out) | exact HB.out)) hb); clear BK108; clear HB; have BK108 := n0_; have HB := n1_; clear n0_ n1_; (try clear hb); (try clear hb2); (try clear hk); (try clear hi)))
          go_meet
          case rel => exact ⟨_, (true), (by first | rfl | (simp; done) | (simp [*]; done)), H', ⟨by first | omega | exact Nat.le_refl _⟩, ⟨by (with_reducible repeat (first | refine blk_drewN ?_ _ | refine blk_drew ?_ | refine blk_alloc ?_ _)); exact BK108.out⟩, ⟨by repeat (first | (with_reducible first | exact HB.out | apply below_alloc | apply pw_below_drewN | apply below_drew1 | refine below_set ?_ GE108.out) | exact HB.out)⟩⟩
        · rw [if_neg c11] at H
          have c11b0 : decide (4096 < a1) = false := decide_eq_false c11
          clear c11
          by_cases c14 : a2 < 0
          · rw [if_pos c14] at H
            have c14b0 : decide (a2 < 0) = true := decide_eq_true c14
            clear c14
            have H' := Aside0.mk H
            clear H
            have hcz15_0 : w5.cell? ⟨gb108, 0, none⟩ = some (.int .i64 a0_0) := (blk_cell BK108.out 0).trans rfl
            have hcz15_1 : w5.cell? ⟨gb108, 1, none⟩ = some (.int .i64 a0_1) := (blk_cell BK108.out 1).trans rfl
            have hcz15_2 : w5.cell? ⟨gb108, 2, none⟩ = some (.int .i64 a0_2) := (blk_cell BK108.out 2).trans rfl
            have hfz15_0 := blk_frozen BK108.out 0
            have hfz15_1 := blk_frozen BK108.out 1
            have hfz15_2 := blk_frozen BK108.out 2
            go_wp2_with (first | ((with_reducible refine gate_callee (f := 64) rfl ?_); refine goesL_ (some 9) rfl rfl Try.func64 (by kernel_rfl) rfl #[.agg #[.int .i64 a0_0, .int .i64 a0_1, .int .i64 a0_2]] rfl (by (try simp only [List.map_toArray, List.map_cons, List.map_nil]); first | done | rfl | (simp only [List.length_drop, List.length_take]; rfl)) ?_; (with_reducible refine (impl_CodeFault.calls a0_0 a0_1 a0_2 t109 _ A6.out).mono ?_); rintro e w16 ⟨rfl, hb⟩; refine ⟨_, rfl, ?_⟩; have n0_ := Aside0.mk (blk_below (g := gb108) (o := .cells #[.int .i64 a0_0, .int .i64 a0_1, .int .i64 a0_2] 26 (0, 0)) (by (with_reducible repeat (first | refine blk_drewN ?_ _ | refine blk_drew ?_ | refine blk_alloc ?_ _)); exact BK108.out) hb); have n1_ := Aside0.mk (below_step (by repeat (first | (with_reducible first | exact HB.out | apply below_alloc | apply pw_below_drewN | apply below_drew1 | refine below_set ?_ GE108.out) | exact HB.out)) hb); clear BK108; clear HB; have BK108 := n0_; have HB := n1_; clear n0_ n1_; (try clear hb); (try clear hb2); (try clear hk); (try clear hi)))
            go_meet
            case rel => exact ⟨_, (true), (by first | rfl | (simp; done) | (simp [*]; done)), H', ⟨by first | omega | exact Nat.le_refl _⟩, ⟨by (with_reducible repeat (first | refine blk_drewN ?_ _ | refine blk_drew ?_ | refine blk_alloc ?_ _)); exact BK108.out⟩, ⟨by repeat (first | (with_reducible first | exact HB.out | apply below_alloc | apply pw_below_drewN | apply below_drew1 | refine below_set ?_ GE108.out) | exact HB.out)⟩⟩
          · rw [if_neg c14] at H
            have c14b0 : decide (a2 < 0) = false := decide_eq_false c14
            clear c14
            have H' := Aside0.mk H
            clear H
            have hcz17_0 : w5.cell? ⟨gb108, 0, none⟩ = some (.int .i64 a0_0) := (blk_cell BK108.out 0).trans rfl
            have hcz17_1 : w5.cell? ⟨gb108, 1, none⟩ = some (.int .i64 a0_1) := (blk_cell BK108.out 1).trans rfl
            have hcz17_2 : w5.cell? ⟨gb108, 2, none⟩ = some (.int .i64 a0_2) := (blk_cell BK108.out 2).trans rfl
            have hfz17_0 := blk_frozen BK108.out 0
            have hfz17_1 := blk_frozen BK108.out 1
            have hfz17_2 := blk_frozen BK108.out 2
            go_wp2_with (first | ((with_reducible refine gate_callee (f := 64) rfl ?_); refine goesL_ (some 9) rfl rfl Try.func64 (by kernel_rfl) rfl #[.agg #[.int .i64 a0_0, .int .i64 a0_1, .int .i64 a0_2]] rfl (by (try simp only [List.map_toArray, List.map_cons, List.map_nil]); first | done | rfl | (simp only [List.length_drop, List.length_take]; rfl)) ?_; (with_reducible refine (impl_CodeFault.calls a0_0 a0_1 a0_2 t109 _ A6.out).mono ?_); rintro e w18 ⟨rfl, hb⟩; refine ⟨_, rfl, ?_⟩; have n0_ := Aside0.mk (blk_below (g := gb108) (o := .cells #[.int .i64 a0_0, .int .i64 a0_1, .int .i64 a0_2] 26 (0, 0)) (by (with_reducible repeat (first | refine blk_drewN ?_ _ | refine blk_drew ?_ | refine blk_alloc ?_ _)); exact BK108.out) hb); have n1_ := Aside0.mk (below_step (by repeat (first | (with_reducible first | exact HB.out | apply below_alloc | apply pw_below_drewN | apply below_drew1 | refine below_set ?_ GE108.out) | exact HB.out)) hb); clear BK108; clear HB; have BK108 := n0_; have HB := n1_; clear n0_ n1_; (try clear hb); (try clear hb2); (try clear hk); (try clear hi)))
            go_meet
            case rel => exact ⟨_, (decide (a2 > 100000)), (by first | rfl | (simp; done) | (simp [*]; done)), H', ⟨by first | omega | exact Nat.le_refl _⟩, ⟨by (with_reducible repeat (first | refine blk_drewN ?_ _ | refine blk_drew ?_ | refine blk_alloc ?_ _)); exact BK108.out⟩, ⟨by repeat (first | (with_reducible first | exact HB.out | apply below_alloc | apply pw_below_drewN | apply below_drew1 | refine below_set ?_ GE108.out) | exact HB.out)⟩⟩
    · rw [if_neg c7] at H
      have c7b0 : (t109 == 0) = false := beq_eq_false_iff_ne.mpr c7
      have c7b1 : (t109 != 0) = true := bne_iff_ne.mpr c7
      (first | rw [c7b0] | (simp only [i64_w, i32_w]; rw [c7b0]) | skip)
      have H' := Aside0.mk H
      clear H
      have hcz19_0 : w5.cell? ⟨gb108, 0, none⟩ = some (.int .i64 a0_0) := (blk_cell BK108.out 0).trans rfl
      have hcz19_1 : w5.cell? ⟨gb108, 1, none⟩ = some (.int .i64 a0_1) := (blk_cell BK108.out 1).trans rfl
      have hcz19_2 : w5.cell? ⟨gb108, 2, none⟩ = some (.int .i64 a0_2) := (blk_cell BK108.out 2).trans rfl
      have hfz19_0 := blk_frozen BK108.out 0
      have hfz19_1 := blk_frozen BK108.out 1
      have hfz19_2 := blk_frozen BK108.out 2
      go_wp2_with (first | ((with_reducible refine gate_callee (f := 64) rfl ?_); refine goesL_ (some 9) rfl rfl Try.func64 (by kernel_rfl) rfl #[.agg #[.int .i64 a0_0, .int .i64 a0_1, .int .i64 a0_2]] rfl (by (try simp only [List.map_toArray, List.map_cons, List.map_nil]); first | done | rfl | (simp only [List.length_drop, List.length_take]; rfl)) ?_; (with_reducible refine (impl_CodeFault.calls a0_0 a0_1 a0_2 t109 _ A6.out).mono ?_); rintro e w20 ⟨rfl, hb⟩; refine ⟨_, rfl, ?_⟩; have n0_ := Aside0.mk (blk_below (g := gb108) (o := .cells #[.int .i64 a0_0, .int .i64 a0_1, .int .i64 a0_2] 26 (0, 0)) (by (with_reducible repeat (first | refine blk_drewN ?_ _ | refine blk_drew ?_ | refine blk_alloc ?_ _)); exact BK108.out) hb); have n1_ := Aside0.mk (below_step (by repeat (first | (with_reducible first | exact HB.out | apply below_alloc | apply pw_below_drewN | apply below_drew1 | refine below_set ?_ GE108.out) | exact HB.out)) hb); clear BK108; clear HB; have BK108 := n0_; have HB := n1_; clear n0_ n1_; (try clear hb); (try clear hb2); (try clear hk); (try clear hi)))
      go_meet
      case rel => exact ⟨_, (true), (by first | rfl | (simp; done) | (simp [*]; done)), H', ⟨by first | omega | exact Nat.le_refl _⟩, ⟨by (with_reducible repeat (first | refine blk_drewN ?_ _ | refine blk_drew ?_ | refine blk_alloc ?_ _)); exact BK108.out⟩, ⟨by repeat (first | (with_reducible first | exact HB.out | apply below_alloc | apply pw_below_drewN | apply below_drew1 | refine below_set ?_ GE108.out) | exact HB.out)⟩⟩
  case rest =>
    clear HC4
    try clear c1
    try clear p2
    try clear c6
    try clear c7
    try clear c7b0
    try clear c7b1
    try clear c8
    try clear c8b0
    try clear c11
    try clear c11b0
    try clear c14
    try clear c14b0
    try clear hcz12_0
    try clear hcz12_1
    try clear hcz12_2
    try clear hcz15_0
    try clear hcz15_1
    try clear hcz15_2
    try clear hcz17_0
    try clear hcz17_1
    try clear hcz17_2
    try clear hcz19_0
    try clear hcz19_1
    try clear hcz19_2
    try clear hcz9_0
    try clear hcz9_1
    try clear hcz9_2
    try clear hfz12_0
    try clear hfz12_1
    try clear hfz12_2
    try clear hfz15_0
    try clear hfz15_1
    try clear hfz15_2
    try clear hfz17_0
    try clear hfz17_1
    try clear hfz17_2
    try clear hfz19_0
    try clear hfz19_1
    try clear hfz19_2
    try clear hfz9_0
    try clear hfz9_1
    try clear hfz9_2
    obtain ⟨kq, x26_3, rfl, HA, HJ3, BK108, HB⟩ := hcut
    cases kq with
    | zero => exact absurd HA.out (by simp [impl_StripeCount.j0])
    | succ kj3 =>
      have H := HA.out
      clear HA
      simp only [impl_StripeCount.j0] at H
      by_cases c21 : x26_3 = true
      · subst c21
        have H1 : (some (-1)) = some r := by rw [if_pos rfl] at H; exact H
        clear H
        have H := H1
        clear H1
        obtain rfl := Option.some.inj H
        go_wp2
        go_ret
        exact ⟨by first | rfl | (simp [errW_none, errW_some] <;> rfl) | (simp [*, errW_none, errW_some] <;> rfl), by repeat (first | (with_reducible first | exact HB.out | apply below_alloc | apply pw_below_drewN | apply below_drew1 | refine below_set ?_ GE108.out) | exact HB.out)⟩
      · replace c21 := Bool.eq_false_iff.mpr c21
        subst c21
        have H1 : (if (wrap64 (a0_0 * a1)) = 0 then (none) else (if (wrap64 (Int.tdiv (wrap64 ((wrap64 (a2 + (wrap64 (a0_0 * a1)))) - 1)) (wrap64 (a0_0 * a1)))) > 200 then (some (-1)) else (some (wrap64 (Int.tdiv (wrap64 ((wrap64 (a2 + (wrap64 (a0_0 * a1)))) - 1)) (wrap64 (a0_0 * a1))))))) = some r := by rw [if_neg (show ¬ (false = true) by decide)] at H; exact H
        clear H
        have H := H1
        clear H1
        by_cases c22 : (wrap64 (a0_0 * a1)) = 0
        · rw [if_pos c22] at H
          exact absurd H (by simp)
        · rw [if_neg c22] at H
          have c22b0 : ((wrap64 (a0_0 * a1)) == 0) = false := beq_eq_false_iff_ne.mpr c22
          have c22b1 : ((wrap64 (a0_0 * a1)) != 0) = true := bne_iff_ne.mpr c22
          by_cases c23 : (wrap64 (Int.tdiv (wrap64 ((wrap64 (a2 + (wrap64 (a0_0 * a1)))) - 1)) (wrap64 (a0_0 * a1)))) > 200
          · rw [if_pos c23] at H
            have c23b0 : decide (200 < (wrap64 (Int.tdiv (wrap64 ((wrap64 (a2 + (wrap64 (a0_0 * a1)))) - 1)) (wrap64 (a0_0 * a1))))) = true := decide_eq_true c23
            clear c23
            obtain rfl := Option.some.inj H
            have hcz24_0 : wc.cell? ⟨gb108, 0, none⟩ = some (.int .i64 a0_0) := (blk_cell BK108.out 0).trans rfl
            have hcz24_1 : wc.cell? ⟨gb108, 1, none⟩ = some (.int .i64 a0_1) := (blk_cell BK108.out 1).trans rfl
            have hcz24_2 : wc.cell? ⟨gb108, 2, none⟩ = some (.int .i64 a0_2) := (blk_cell BK108.out 2).trans rfl
            have hfz24_0 := blk_frozen BK108.out 0
            have hfz24_1 := blk_frozen BK108.out 1
            have hfz24_2 := blk_frozen BK108.out 2
            go_wp2
            go_ret
            exact ⟨by first | rfl | (simp [errW_none, errW_some] <;> rfl) | (simp [*, errW_none, errW_some] <;> rfl), by repeat (first | (with_reducible first | exact HB.out | apply below_alloc | apply pw_below_drewN | apply below_drew1 | refine below_set ?_ GE108.out) | exact HB.out)⟩
          · rw [if_neg c23] at H
            have c23b0 : decide (200 < (wrap64 (Int.tdiv (wrap64 ((wrap64 (a2 + (wrap64 (a0_0 * a1)))) - 1)) (wrap64 (a0_0 * a1))))) = false := decide_eq_false c23
            clear c23
            obtain rfl := Option.some.inj H
            have hcz25_0 : wc.cell? ⟨gb108, 0, none⟩ = some (.int .i64 a0_0) := (blk_cell BK108.out 0).trans rfl
            have hcz25_1 : wc.cell? ⟨gb108, 1, none⟩ = some (.int .i64 a0_1) := (blk_cell BK108.out 1).trans rfl
            have hcz25_2 : wc.cell? ⟨gb108, 2, none⟩ = some (.int .i64 a0_2) := (blk_cell BK108.out 2).trans rfl
            have hfz25_0 := blk_frozen BK108.out 0
            have hfz25_1 := blk_frozen BK108.out 1
            have hfz25_2 := blk_frozen BK108.out 2
            go_wp2
            go_ret
            exact ⟨by first | rfl | (simp [errW_none, errW_some] <;> rfl) | (simp [*, errW_none, errW_some] <;> rfl), by repeat (first | (with_reducible first | exact HB.out | apply below_alloc | apply pw_below_drewN | apply below_drew1 | refine below_set ?_ GE108.out) | exact HB.out)⟩

-- NOT PRINTED: function 88 (impl_cut_ranges)

/-! ### impl_RangeReads: function 36 -/
theorem rrInfo84 : (Try.prog.info? 84).map (fun i => (i.zero, i.size, i.bytes)) = some (some (.agg #[(.int .i64 0), (.int .i64 0), (.int .i64 0), (.int .i64 0)]), 4, 32) := by kernel_rfl
/-- A piece of a range: P bytes are a stripe, u a shard's; the range ends at e. -/
def rrCount (P u e x : Int) : Int := if e - x < u - x % P % u then e - x else u - x % P % u
def rrItem (P u e x : Int) : S84 := ⟨x / P, x % P / u, x % P % u, rrCount P u e x⟩
def rrL (P u e : Int) : Nat → Int → List S84
  | 0, _ => []
  | n + 1, x => if x < e then rrItem P u e x :: rrL P u e n (x + rrCount P u e x) else []
theorem rrL_end {P u e x : Int} {n : Nat} (h : e ≤ x) : rrL P u e n x = [] := by
  cases n with
  | zero => rfl
  | succ n => rw [rrL, if_neg (by omega)]
section
attribute [local go_sem] Oper.semAt_some
def rrEnc (x : S84) : Array Value := #[.agg #[.int .i64 x.f0, .int .i64 x.f1, .int .i64 x.f2, .int .i64 x.f3]]
/-- The slice in the box B lies in block k. -/
def rrRow (B : Nat) (W : World) (k : Nat) : Prop := ∃ v, W.cell? ⟨B, 1, none⟩ = some v ∧ v.ownBlock = some k
/-- What a round keeps: each block but the box B and the slice's. -/
structure rrKp (B : Nat) (A W : World) : Prop where
  size : A.heap.size ≤ W.heap.size
  wf : (∀ k, rrRow B A k → k < A.heap.size) → ∀ k, rrRow B W k → k < W.heap.size
  row : ∀ k, k < A.heap.size → rrRow B W k → rrRow B A k
  keep : ∀ k o, k ≠ B → ¬ rrRow B A k → A.heap[k]? = some o → o.isCells = true → W.heap[k]? = some o
theorem rrKp.trans {B : Nat} {X Y Z : World} (h : rrKp B X Y) (k : rrKp B Y Z) : rrKp B X Z where
  size := Nat.le_trans h.size k.size
  wf := fun q => k.wf (h.wf q)
  row := fun i hi hr => h.row i hi (k.row i (Nat.lt_of_lt_of_le hi h.size) hr)
  keep := fun i o hi hr ho hc => k.keep i o hi (fun q => hr (h.row i (Array.getElem?_eq_some_iff.1 ho).1 q)) (h.keep i o hi hr ho hc) hc
theorem rrRow_block {B k : Nat} {X Y : World} (h : Y.heap[B]? = X.heap[B]?) (hr : rrRow B Y k) : rrRow B X k := by
  obtain ⟨v, hv, ho⟩ := hr
  refine ⟨v, ?_, ho⟩
  rw [← hv]
  simp [World.cell?, h]
theorem rrKp.putObj {B : Nat} (W : World) (l : Nat) (o o' : Obj) (hl : B < l) (ho : W.heap[l]? = some o) (hc : o.isCells = false) : rrKp B W (W.putObj l o') := by
  have hg := grownBy_putObj' W l o'
  have hsz : W.heap.size ≤ (W.putObj l o').heap.size := by simp [World.putObj]
  have hB : (W.putObj l o').heap[B]? = W.heap[B]? := hg.block B (Nat.lt_trans hl (Array.getElem?_eq_some_iff.1 ho).1) (by simp; omega)
  refine ⟨hsz, fun q k hk => Nat.lt_of_lt_of_le (q k (rrRow_block hB hk)) hsz, fun k _ hk => rrRow_block hB hk, fun k u _ _ hu hcu => ?_⟩
  rw [hg.block k (Array.getElem?_eq_some_iff.1 hu).1 (by rintro e; injection e with e; subst e; rw [ho] at hu; injection hu with hu; subst hu; rw [hc] at hcu; exact Bool.noConfusion hcu)]
  exact hu
set_option maxHeartbeats 8000000 in
set_option maxRecDepth 100000 in
theorem rr_iter (n : Nat) (l bf bc bn : Nat) (K C1 C2 u size from_ count e P : Int) (N : Nat) (hP : wrap64 (K * u) = P) (hP1 : 1 ≤ P) (hP2 : P ≤ 1000000000000) (hu1 : 1 ≤ u) (hu2 : u ≤ 1000000000000) (hs0 : 0 ≤ size) (hs : size ≤ 1000000000000) (hf0 : 0 ≤ from_) (hfs : from_ < size) (hc0 : 0 ≤ count) (he : e = if count < size - from_ then from_ + count else size) (hN : e - from_ ≤ N) (J Jx : List S84 → World → Prop) (hn : 1 ≤ n) (B : Nat)
    (hY : ∀ pre x W, J pre W → pre.length < (rrL P u e N from_).length → YieldAt Fence.wide (n - 1) Try.prog l (rrEnc x) W fun en W' =>
      (en = .returned (.bool true) ∧ J (pre ++ [x]) W' ∧ rrKp B W W') ∨ (en = .returned (.bool false) ∧ Jx (pre ++ [x]) W'))
    (W : World) (hJ : AbidesFrom W.heap.size J) (hBl : B < W.heap.size) (hr0 : ∀ k, ¬ rrRow B W k)
    (h1 : W.heap[bf]? = some (.cells #[.int .i64 from_] 2 (0, 0))) (h2 : W.heap[bn]? = some (.cells #[.int .i64 count] 2 (0, 0)))
    (h3 : W.heap[bc]? = some (.cells #[.int .i64 K, .int .i64 C1, .int .i64 C2, .int .i64 u, .int .i64 size] 118 (0, 0))) (hBc : bc ≠ B) (h0 : J [] W) :
    CallsIn Fence.wide n Try.prog 116 #[.func (.yield l) #[] #[], .pointer (some ⟨bf, 0, none⟩), .pointer (some ⟨bc, 0, none⟩), .pointer (some ⟨bn, 0, none⟩)] W fun en W' => (∃ v, en = .returned v) ∧
      ((∃ ys, ys = rrL P u e N from_ ∧ J ys W') ∨ (∃ pre, pre <+: rrL P u e N from_ ∧ Jx pre W')) := by
  have HJ := Aside0.mk hJ
  have HY := Aside0.mk hY
  have HN := Aside0.mk hN
  have HE := Aside0.mk he
  have HP := Aside0.mk hP
  have HR : Aside0 (∀ k, rrRow B W k → W.heap.size ≤ k ∧ k < W.heap.size) := ⟨fun k hk => absurd hk (hr0 k)⟩
  have hlt3 := blk_lt h3
  have HC := Aside0.mk h3
  have h1_ : W.cell? ⟨bf, 0, none⟩ = some (.int .i64 from_) := (blk_cell h1 0).trans rfl
  have h2_ : W.cell? ⟨bn, 0, none⟩ = some (.int .i64 count) := (blk_cell h2 0).trans rfl
  have h3_ : W.cell? ⟨bc, 4, none⟩ = some (.int .i64 size) := (blk_cell h3 4).trans rfl
  clear hJ hY hN he hP h1 h2 h3 hr0
  refine callsIn_of_wp Try.func116 rfl trivial ?_ rfl
  simp only [Try.ntmps116, List.size_toArray, List.length_cons, List.length_nil, Nat.reduceAdd, Nat.reduceSub, Array.replicate_succ, Array.replicate_zero, List.push_toArray, List.append_toArray, List.nil_append, List.cons_append]
  by_cases hcs : count < size - from_
  case' pos =>
    have hE := Aside0.mk (show from_ + count = e by rw [HE.out, if_pos hcs])
    have he1 : from_ ≤ e := by have := hE.out; omega
    have he2 : e ≤ 1000000000000 := by have := hE.out; omega
    gi_wp2
    rw [hE.out]
  case' neg =>
    have hE := Aside0.mk (show size = e by rw [HE.out, if_neg hcs])
    have he1 : from_ ≤ e := by have := hE.out; omega
    have he2 : e ≤ 1000000000000 := by have := hE.out; omega
    gi_wp2
    rw [hE.out]
  all_goals
    clear h1_ h2_ h3_
    gi_loopw [6] (fun v6 wr => ∃ (pre : List S84) (x : Int) (k : Nat), v6 = .int .i64 x ∧ from_ ≤ x ∧ x ≤ e ∧ e - x ≤ k ∧ Aside0 (rrL P u e N from_ = pre ++ rrL P u e k x) ∧ Aside0 (J pre wr) ∧ Aside0 (∀ k, rrRow B wr k → W.heap.size ≤ k ∧ k < wr.heap.size) ∧ Aside0 (wr.heap[bc]? = some (.cells #[.int .i64 K, .int .i64 C1, .int .i64 C2, .int .i64 u, .int .i64 size] 118 (0, 0))) ∧ W.heap.size ≤ wr.heap.size) (fun v6 _ => (e - intOf v6).toNat)
    case atStart => exact ⟨[], from_, N, rfl, Int.le_refl _, he1, HN.out, ⟨rfl⟩, ⟨h0⟩, HR, HC, Nat.le_refl _⟩
    case round =>
      clear h0 HR HC
      obtain ⟨pre, x, k, rfl, hx1, hx2, hk, HX, HJs, HR, HC, hsz⟩ := hrel
      have hd1 : wr.cell? ⟨bc, 0, none⟩ = some (.int .i64 K) := (blk_cell HC.out 0).trans rfl
      have hd3 : wr.cell? ⟨bc, 3, none⟩ = some (.int .i64 u) := (blk_cell HC.out 3).trans rfl
      by_cases hlt : x < e
      · have c0 : decide (x < e) = true := decide_eq_true hlt
        have hp0 : (P == 0) = false := beq_eq_false_iff_ne.mpr (by omega)
        have hu0 : (u == 0) = false := beq_eq_false_iff_ne.mpr (by omega)
        have hw0 : 0 ≤ x := by omega
        have hz : ¬ wrap64 (K * u) = 0 := by rw [HP.out]; omega
        gi_wp2
        have hq : wrap64 (x.tdiv P) = x / P := by
          rw [Int.tdiv_eq_ediv_of_nonneg hw0]
          have q1 : 0 ≤ x / P := Int.ediv_nonneg hw0 (by omega)
          have q2 : x / P ≤ x := Int.ediv_le_self _ hw0
          unfold wrap64; omega
        rw [HP.out, hq]
        clear hq
        obtain ⟨y, hy⟩ : ∃ y, x % P = y := ⟨_, rfl⟩
        have hy0 : 0 ≤ y := by rw [← hy]; exact Int.emod_nonneg _ (by omega)
        have hy1 : y < P := by rw [← hy]; exact Int.emod_lt_of_pos _ (by omega)
        rw [hy]
        have HY2 := Aside0.mk hy
        clear hy
        have hb3 : bc < wr.heap.size := World.block_lt_of_cell? _ _ hd3
        have hb4 : bc ≠ wr.heap.size := by omega
        have hb5 : ¬ wr.heap.size = bc := by omega
        gi_region
        have hm0 : 0 ≤ y % u := Int.emod_nonneg _ (by omega)
        have hm1 : y % u < u := Int.emod_lt_of_pos _ (by omega)
        obtain ⟨k, rfl⟩ : ∃ m, k = m + 1 := ⟨k - 1, by omega⟩
        have HX2 : Aside0 (rrL P u e N from_ = pre ++ rrItem P u e x :: rrL P u e k (x + rrCount P u e x)) := ⟨by rw [HX.out, rrL, if_pos hlt]⟩
        have hlen : pre.length < (rrL P u e N from_).length := by rw [HX2.out]; simp
        clear HX
        by_cases hmin : e - x < u - y % u
        case' pos => have HCN := Aside0.mk (show rrCount P u e x = e - x by unfold rrCount; rw [HY2.out, if_pos hmin])
        case' neg => have HCN := Aside0.mk (show rrCount P u e x = u - y % u by unfold rrCount; rw [HY2.out, if_neg hmin])
        all_goals
          obtain ⟨w1, hw1⟩ : ∃ w1, (wr.alloc (.cells #[.int .i64 (x / P), .int .i64 (y / u), .int .i64 (y % u), .int .i64 (rrCount P u e x)] 84)).drew = w1 := ⟨_, rfl⟩
          have hJ1 : J pre w1 := by rw [← hw1]; exact HJ.out pre _ _ none (HJ.out pre _ _ none HJs.out (World.grownBy_alloc wr _ none) (by simp)) ⟨rfl, rfl, rfl, Nat.le_refl _, fun _ _ _ => rfl⟩ (by simp)
          have hb1 : w1.heap[wr.heap.size]? = some (.cells #[.int .i64 (x / P), .int .i64 (y / u), .int .i64 (y % u), .int .i64 (rrCount P u e x)] 84 (0, 0)) := by rw [← hw1]; exact blk_drew (blk_new wr _)
          have hcb1 : w1.heap[bc]? = some (.cells #[.int .i64 K, .int .i64 C1, .int .i64 C2, .int .i64 u, .int .i64 size] 118 (0, 0)) := by rw [← hw1]; exact blk_drew (blk_alloc HC.out _)
          have hs1 : w1.heap.size = wr.heap.size + 1 := by rw [← hw1]; simp
          have hR1 : ∀ k, rrRow B w1 k → W.heap.size ≤ k ∧ k < wr.heap.size := fun k hk => HR.out k (rrRow_block (by rw [← hw1]; exact (Below.heap_alloc wr _ B (by omega))) hk)
          obtain ⟨fn, tmps, assign, body, hy, hR⟩ := HY.out pre (rrItem P u e x) w1 hJ1 hlen
          dsimp only [rrEnc, rrItem] at hy
          rw [HY2.out, HCN.out, ← hw1, HCN.out] at hy
          have HRR := Aside0.mk hR
          have HW1 := Aside0.mk hw1
          have HB1 := Aside0.mk hb1
          have HCB := Aside0.mk hcb1
          have HR1 := Aside0.mk hR1
          have HS1 := Aside0.mk hs1
          clear hR hJ1 hw1 hb1 hcb1 hR1 hs1 HJs
          gi_wp2
          rw [← HCN.out, HW1.out]
          refine HRR.out.mono ?_
          rintro en W3 (⟨rfl, hJ3, hk3⟩ | ⟨rfl, hJx3⟩)
          · have g3 := hk3.keep _ _ (by omega) (fun q => by have := (HR1.out _ q).2; omega) HB1.out rfl
            have hc3 : W3.cell? ⟨wr.heap.size, 3, none⟩ = some (.int .i64 (rrCount P u e x)) := (blk_cell g3 3).trans rfl
            have hR3 : ∀ k, rrRow B W3 k → W.heap.size ≤ k ∧ k < W3.heap.size := fun k hk => by
              have q2 := hk3.wf (fun j hj => by have := (HR1.out j hj).2; have := HS1.out; omega) k hk
              rcases Nat.lt_or_ge k w1.heap.size with q | q
              · exact ⟨(HR1.out k (hk3.row k q hk)).1, q2⟩
              · exact ⟨by have := HS1.out; omega, q2⟩
            have hC3 := hk3.keep _ _ hBc (fun q => by have := (HR1.out _ q).1; omega) HCB.out rfl
            have hs3 : W.heap.size ≤ W3.heap.size := by have := hk3.size; have := HS1.out; omega
            have hcc1 : 1 ≤ rrCount P u e x := by have := HCN.out; omega
            have hcc2 : rrCount P u e x ≤ e - x := by have := HCN.out; omega
            obtain ⟨c, hcc⟩ : ∃ c, rrCount P u e x = c := ⟨_, rfl⟩
            rw [hcc] at hc3 hcc1 hcc2 ⊢
            have HCC := Aside0.mk hcc
            have HR3 := Aside0.mk hR3
            have HC3 := Aside0.mk hC3
            clear hcc hR3 hC3 g3
            gi_wp2
            go_roundw
            case rel => exact ⟨pre ++ [rrItem P u e x], x + c, k, rfl, by omega, by omega, by omega, ⟨by rw [HX2.out, HCC.out]; simp⟩, ⟨hJ3⟩, HR3, HC3, hs3⟩
            case measure => simp [intOf]; omega
          · gi_wp2
            refine bodyPost_ret (results_none rfl _ _ _) rfl ?_
            exact ⟨⟨_, rfl⟩, .inr ⟨pre ++ [rrItem P u e x], ⟨rrL P u e k (x + rrCount P u e x), by rw [HX2.out]; simp⟩, hJx3⟩⟩
      · gi_wp2
        go_end0
        obtain rfl : x = e := by omega
        refine ⟨⟨_, rfl⟩, .inl ?_⟩
        rw [HX.out, rrL_end (Int.le_refl _), List.append_nil]
        exact HJs.out
theorem rrL_len (P u e : Int) : ∀ (n : Nat) (x : Int), (rrL P u e n x).length ≤ n
  | 0, _ => Nat.le_refl _
  | n + 1, x => by
    rw [rrL]
    split
    · have := rrL_len P u e n (x + rrCount P u e x)
      rw [List.length_cons]
      omega
    · exact Nat.zero_le _
def rrEnd (size from_ count : Int) : Int := if count < size - from_ then from_ + count else size
def rrAll (P u size from_ count : Int) : List S84 := if from_ < size then rrL P u (rrEnd size from_ count) (rrEnd size from_ count - from_).toNat from_ else []
theorem rrAll_len (P u size from_ count : Int) (h0 : 0 ≤ from_) (h1 : size ≤ 1000000000000) : (rrAll P u size from_ count).length ≤ 1000000000000 := by
  unfold rrAll
  split
  · refine Nat.le_trans (rrL_len _ _ _ _ _) ?_
    unfold rrEnd
    split <;> omega
  · exact Nat.zero_le _
set_option maxHeartbeats 8000000 in
set_option maxRecDepth 100000 in
theorem rr_iter0 (n : Nat) (l bf bc bn : Nat) (K C1 C2 u size from_ : Int) (hfs : size ≤ from_) (J Jx : List S84 → World → Prop)
    (W : World) (h1 : W.heap[bf]? = some (.cells #[.int .i64 from_] 2 (0, 0)))
    (h3 : W.heap[bc]? = some (.cells #[.int .i64 K, .int .i64 C1, .int .i64 C2, .int .i64 u, .int .i64 size] 118 (0, 0))) (h0 : J [] W) :
    CallsIn Fence.wide n Try.prog 116 #[.func (.yield l) #[] #[], .pointer (some ⟨bf, 0, none⟩), .pointer (some ⟨bc, 0, none⟩), .pointer (some ⟨bn, 0, none⟩)] W fun en W' => (∃ v, en = .returned v) ∧
      ((∃ ys, ys = ([] : List S84) ∧ J ys W') ∨ (∃ pre, pre <+: ([] : List S84) ∧ Jx pre W')) := by
  have HJ := Aside0.mk h0
  have h1_ : W.cell? ⟨bf, 0, none⟩ = some (.int .i64 from_) := (blk_cell h1 0).trans rfl
  have h3_ : W.cell? ⟨bc, 4, none⟩ = some (.int .i64 size) := (blk_cell h3 4).trans rfl
  clear h1 h3 h0
  refine callsIn_of_wp Try.func116 rfl trivial ?_ rfl
  simp only [Try.ntmps116, List.size_toArray, List.length_cons, List.length_nil, Nat.reduceAdd, Nat.reduceSub, Array.replicate_succ, Array.replicate_zero, List.push_toArray, List.append_toArray, List.nil_append, List.cons_append]
  gi_wp2
  refine bodyPost_ret (results_none rfl _ _ _) rfl ?_
  exact ⟨⟨_, rfl⟩, .inl ⟨_, rfl, HJ.out⟩⟩
theorem rr_stops (n : Nat) (hn : 1 ≤ n) (bf bc bn B : Nat) (K C1 C2 u size from_ count P : Int) (hP : wrap64 (K * u) = P) (hP1 : 1 ≤ P) (hP2 : P ≤ 1000000000000) (hu1 : 1 ≤ u) (hu2 : u ≤ 1000000000000) (hs0 : 0 ≤ size) (hs : size ≤ 1000000000000) (hf0 : 0 ≤ from_) (hc0 : 0 ≤ count)
    (w : World) (hBl : B < w.heap.size) (hr0 : ∀ k, ¬ rrRow B w k)
    (h1 : w.heap[bf]? = some (.cells #[.int .i64 from_] 2 (0, 0))) (h2 : w.heap[bn]? = some (.cells #[.int .i64 count] 2 (0, 0)))
    (h3 : w.heap[bc]? = some (.cells #[.int .i64 K, .int .i64 C1, .int .i64 C2, .int .i64 u, .int .i64 size] 118 (0, 0))) (hBc : bc ≠ B) :
    SeqStopsK Fence.wide n Try.prog 116 #[.pointer (some ⟨bf, 0, none⟩), .pointer (some ⟨bc, 0, none⟩), .pointer (some ⟨bn, 0, none⟩)] rrEnc (rrKp B) (fun ys => ys = rrAll P u size from_ count) (fun pre => pre <+: rrAll P u size from_ count) (rrAll P u size from_ count).length w := by
  intro l J Jx W hW hJ hJx hY h0
  have g1 := blk_below h1 hW
  have g2 := blk_below h2 hW
  have g3 := blk_below h3 hW
  have hr : ∀ k, ¬ rrRow B W k := fun k hk => hr0 k (rrRow_block (hW.block B hBl) hk)
  have hBW : B < W.heap.size := Nat.lt_of_lt_of_le hBl hW.size
  unfold rrAll at hY ⊢
  by_cases hfs : from_ < size
  · rw [if_pos hfs] at hY ⊢
    exact rr_iter n l bf bc bn K C1 C2 u size from_ count (rrEnd size from_ count) P _ hP hP1 hP2 hu1 hu2 hs0 hs hf0 hfs hc0 rfl (by unfold rrEnd; split <;> omega) J Jx hn B hY W hJ hBW hr g1 g2 g3 hBc h0
  · rw [if_neg hfs]
    exact rr_iter0 n l bf bc bn K C1 C2 u size from_ (by omega) J Jx W g1 g3 h0
set_option maxHeartbeats 8000000 in
set_option maxRecDepth 100000 in
theorem rr_maker (n : Nat) (K C1 C2 u size from_ count : Int) (w : World) :
    CallsIn Fence.wide n Try.prog 88 #[.agg #[.int .i64 K, .int .i64 C1, .int .i64 C2, .int .i64 u, .int .i64 size], .int .i64 from_, .int .i64 count] w fun e w' =>
      e = .returned (.func (.func 116) #[] #[.pointer (some ⟨w.heap.size + 1, 0, none⟩), .pointer (some ⟨w.heap.size, 0, none⟩), .pointer (some ⟨w.heap.size + 1 + 1, 0, none⟩)]) ∧
      w' = ((w.alloc (.cells #[.int .i64 K, .int .i64 C1, .int .i64 C2, .int .i64 u, .int .i64 size] 118)).alloc (.cells #[.int .i64 from_] 2)).alloc (.cells #[.int .i64 count] 2) := by
  refine callsIn_of_wp Try.func88 rfl trivial ?_ rfl
  simp only [Try.ntmps88, List.size_toArray, List.length_cons, List.length_nil, Nat.reduceAdd, Nat.reduceSub, Array.replicate_succ, Array.replicate_zero, List.push_toArray, List.append_toArray, List.nil_append, List.cons_append]
  gi_wp2
  go_ret
  exact ⟨rfl, rfl⟩
end
section
attribute [local go_sem] Oper.semAt_some
theorem rr_appendIn {F : Fence} {nF : Nat} {P : Program} {ops : Array Oper} {rest : List Oper} {o : Oper} {a : Act} {Q : Exit → Act → World → Prop} {W : World} (base : Nat) (hgd : o.guard = none) (s x : Operand)
    (ho : o.op = .call { callee := .builtin .append, args := #[s, x], argTypes := #[54, 54] })
    (ht : P.underlying 54 = some (.slice 84)) (hinfo : (P.info? 84).map (fun i => (i.zero, i.size, i.bytes)) = some (some (.agg #[(.int .i64 0), (.int .i64 0), (.int .i64 0), (.int .i64 0)]), 4, 32))
    (v : Value) (xs : List S84) (p : S84) (hs : a.eval s = v) (hx : a.eval x = .slice (some ⟨W.heap.size, 0, none⟩) 1 1)
    (HO : k84.R 84 W base (fun _ => True) v xs) (hbase : base ≤ W.heap.size) (hl : (xs.length + 1) * 32 ≤ 140737488355328)
    (h : ∀ v1 w1, (∃ g c, v1 = .slice (some ⟨g, 0, none⟩) (xs.length + 1) c) → k84.R 84 w1 base (fun _ => True) v1 (xs ++ [p]) → W.grownBy w1 v.ownBlock → (v1.ownBlock = v.ownBlock ∨ ∃ b, v1.ownBlock = some b ∧ W.heap.size ≤ b) → wpListIn F nF P ops Q rest (a.put o.dst v1) w1) :
    wpListIn F nF P ops Q (o :: rest) a (W.alloc (.cells #[.int .i64 p.f0, .int .i64 p.f1, .int .i64 p.f2, .int .i64 p.f3] 84)) := by
  obtain ⟨h0, inner, hown, hr⟩ := HO
  obtain ⟨i0, hi, hz0, hz1, hz2⟩ := info_parts hinfo
  have hp : k84.M W base (fun _ => False) p [.int .i64 p.f0, .int .i64 p.f1, .int .i64 p.f2, .int .i64 p.f3] := k84_mkM _ _ _ p
  refine wpListIn_append_own_at (W.alloc (.cells #[.int .i64 p.f0, .int .i64 p.f1, .int .i64 p.f2, .int .i64 p.f3] 84)) hgd s x 54 ho base 84 i0 _ 4 32 ht hi hz0 hz1 hz2 rfl (by decide) v xs.length inner hs (hown.alloc _) ⟨W.heap.size, 0, none⟩ 1 1 [.int .i64 p.f0, .int .i64 p.f1, .int .i64 p.f2, .int .i64 p.f3] hx rfl
    (by simpa using World.news_of_block (cs := #[.int .i64 p.f0, .int .i64 p.f1, .int .i64 p.f2, .int .i64 p.f3]) (t := 84) (fr := (0, 0)) (heap_alloc_new W _)) (k84.K_one (k84.K_of_M hp)) (by simp only [maxLen]; omega) hl (by simp; omega) ?_
  intro v1 w1 hown1 hg _ hat
  have hg' := World.grownBy.trans (World.grownBy_alloc W _ _) hg
  have hat' : v1.ownBlock = v.ownBlock ∨ ∃ b, v1.ownBlock = some b ∧ W.heap.size ≤ b := by
    rcases hat with hat | hat
    · exact .inl hat
    · exact .inr ⟨_, hat, by simp⟩
  exact h v1 w1 (ownsRow_succ hown1) (Kd.R_appended h0 hr hp (fun _ hk => hk.elim) (fun _ _ => trivial) hown1 hg' hat') hg' hat'
/-- Between two rounds: what the boxes hold. -/
def rrI (w : World) (B R : Nat) (pre : List S84) (W : World) : Prop := ∃ v, W.heap[B]? = some (.cells #[.int .i64 0, v] 56 (0, 0)) ∧ k84.R 84 W w.heap.size (fun _ => True) v pre ∧ W.heap[R]? = some (.cells #[.int .i64 0, .slice none 0 0] 56 (0, 0)) ∧ Below w.heap.size w W
theorem rrI_own (w : World) (B R D : Nat) (hD : w.heap.size ≤ D) : OwnFrom D (rrI w B R) := by
  rintro s X Y row ⟨v, h1, h2, h3, h4⟩ hg hr
  have ne : ∀ (k : Nat) (cs : Array Value) (t : TypeId), X.heap[k]? = some (.cells cs t (0, 0)) → some k ≠ row := fun k cs t hk e => by
    obtain ⟨_, o, ho, hc⟩ := hr k e.symm
    rw [hk] at ho
    cases ho
    cases hc
  refine ⟨v, blk_grown h1 hg (ne _ _ _ h1), Kd.R_mono (Kd.R_grown (Kd.R_bound h2) hg (fun k hk => ?_)) (fun _ _ => trivial), blk_grown h3 hg (ne _ _ _ h3), h4.grown hg h4.size (fun k e => Nat.le_trans hD (hr k e).1)⟩
  obtain ⟨_, _, _, q, _, cells, hc⟩ := hk
  exact ne _ _ _ hc
def rrA (tm : Value → Value → Array Value) (x : S84) (a : Act) (W : World) : Prop := ∃ b, W.heap[b]? = some (.cells #[.int .i64 x.f0, .int .i64 x.f1, .int .i64 x.f2, .int .i64 x.f3] 84 (0, 0)) ∧ a = { tmps := tm (.pointer (some ⟨b, 0, none⟩)) (.agg #[.int .i64 x.f0, .int .i64 x.f1, .int .i64 x.f2, .int .i64 x.f3]), defers := [] }
theorem rrA_own (tm : Value → Value → Array Value) (x : S84) (a : Act) (D : Nat) : OwnFrom D (fun (_ : Unit) W => rrA tm x a W) := by
  rintro s X Y row ⟨b, hb, e⟩ hg hr
  refine ⟨b, blk_grown hb hg (fun e => ?_), e⟩
  obtain ⟨_, o, ho, hc⟩ := hr b e.symm
  rw [hb] at ho
  cases ho
  cases hc
theorem rrKp.alloc {B : Nat} (W : World) (o : Obj) (hB : B < W.heap.size) : rrKp B W (W.alloc o) where
  size := by simp
  wf := fun q k hk => by have := q k (rrRow_block (Below.heap_alloc W o B hB) hk); simp; omega
  row := fun k _ hk => rrRow_block (Below.heap_alloc W o B hB) hk
  keep := fun k u _ _ hu _ => blk_alloc hu o
/-- What a round leaves. -/
theorem rr_round {w W w1 : World} {B R : Nat} {pre : List S84} {x : S84} {v v1 : Value} (hRB : R ≠ B) (hwB : w.heap.size ≤ B) (h1 : W.heap[B]? = some (.cells #[.int .i64 0, v] 56 (0, 0))) (h2 : k84.R 84 W w.heap.size (fun _ => True) v pre) (h3 : W.heap[R]? = some (.cells #[.int .i64 0, .slice none 0 0] 56 (0, 0))) (h4 : Below w.heap.size w W)
    (hR1 : k84.R 84 w1 w.heap.size (fun _ => True) v1 (pre ++ [x])) (hg : W.grownBy w1 v.ownBlock) (hat : v1.ownBlock = v.ownBlock ∨ ∃ b, v1.ownBlock = some b ∧ W.heap.size ≤ b) (D : Nat) :
    (w1.heap[B]? = some (.cells #[.int .i64 0, v] 56 (0, 0))) ∧ KeepsFrom D W (w1.setCell ⟨B, 1, none⟩ v1) ∧ rrKp B W (w1.setCell ⟨B, 1, none⟩ v1) ∧ rrI w B R (pre ++ [x]) (w1.setCell ⟨B, 1, none⟩ v1) := by
  obtain ⟨_, inner, hown, _⟩ := id h2
  have hb1 : w1.heap[B]? = some (.cells #[.int .i64 0, v] 56 (0, 0)) := blk_grown h1 hg (own_ne hown h1 (by decide))
  have hr1 : w1.heap[R]? = some (.cells #[.int .i64 0, .slice none 0 0] 56 (0, 0)) := blk_grown h3 hg (own_ne hown h3 (by decide))
  have hb2 : (w1.setCell ⟨B, 1, none⟩ v1).heap[B]? = some (.cells #[.int .i64 0, v1] 56 (0, 0)) := blk_put hb1 1 v1 rfl
  have hrow : ∀ k, rrRow B (w1.setCell ⟨B, 1, none⟩ v1) k → v1.ownBlock = some k := fun k hk => by
    obtain ⟨u, hu, hk⟩ := hk
    rw [blk_cell hb2] at hu
    obtain rfl : v1 = u := by simpa using hu
    exact hk
  obtain ⟨_, inner1, hown1, _⟩ := id hR1
  refine ⟨hb1, ?_, ?_, ?_⟩
  · refine ((KeepsOthers.of_grownBy hg (fun j o e ho => ?_)).trans (KeepsOthers.setCell _ _ _)).from _
    obtain ⟨cells, hc⟩ := own_typed hown j e
    rw [hc] at ho
    cases ho
    rfl
  · refine ⟨by simpa using hg.size, fun _ k hk => ?_, fun k hk hr => ?_, fun k o hk hr ho _ => ?_⟩
    · have := own_lt hown1 k (hrow k hk)
      simpa using this
    · rcases hat with hat | ⟨b, hb, hle⟩
      · exact ⟨v, (blk_cell h1 1).trans rfl, hat ▸ hrow k hr⟩
      · have := hrow k hr
        rw [hb] at this
        injection this with this
        omega
    · refine (Below.heap_setCell w1 ⟨B, 1, none⟩ v1 k hk).trans (blk_grown ho hg (fun e => hr ⟨v, (blk_cell h1 1).trans rfl, e.symm⟩))
  · refine ⟨v1, hb2, Kd.R_mono (Kd.R_far (Kd.R_types hR1 hb1 (by decide)) (fun k hk => hk.2) v1) (fun _ _ => trivial), blk_far hr1 hRB v1, (h4.grown hg h4.size (own_base hown)).setCell hwB v1⟩
set_option maxHeartbeats 8000000 in
set_option maxRecDepth 100000 in
theorem rr_caller (k : Nat) (a0_0 a0_1 a0_2 a1 a2 a3 a4 t : Int) (P : Int) (w : World) (hS : impl_StripeCount.f k a0_0 a0_1 a0_2 a1 a2 = some t) (ht : 0 ≤ t) (h3 : 0 ≤ a3) (h4 : 0 ≤ a4)
    (hP : wrap64 (a0_0 * a1) = P) (hP1 : 1 ≤ P) (hP2 : P ≤ 1000000000000) (hu1 : 1 ≤ a1) (hu2 : a1 ≤ 1000000000000) (hs0 : 0 ≤ a2) (hs : a2 ≤ 1000000000000) :
    CallsIn Fence.wide 6 Try.prog 36 #[.agg #[.int .i64 a0_0, .int .i64 a0_1, .int .i64 a0_2], .int .i64 a1, .int .i64 a2, .int .i64 a3, .int .i64 a4] w fun e w' => ∃ v1_ : Value, e = .returned (.agg #[.int .i64 0, v1_]) ∧ Kd.R k84 84 w' w.heap.size (fun _ => True) v1_ (rrAll P a1 a2 a3 a4) ∧ Below w.heap.size w w' := by
  have HS := Aside0.mk hS
  have HP := Aside0.mk hP
  have ht1 : decide (t < 0) = false := decide_eq_false (by omega)
  have ht3 : decide (a3 < 0) = false := decide_eq_false (by omega)
  have ht4 : decide (a4 < 0) = false := decide_eq_false (by omega)
  have hrl := rrAll_len P a1 a2 a3 a4 h3 hs
  clear hS hP
  refine callsIn_of_wp_marks Try.func36 rfl trivial ?_ rfl
  simp only [Try.ntmps36, List.size_toArray, List.length_cons, List.length_nil, Nat.reduceAdd, Nat.reduceSub, Array.replicate_succ, Array.replicate_zero, List.push_toArray, List.append_toArray, List.nil_append, List.cons_append]
  gi_wp2_with (first | (refine ⟨trivial, ?_⟩; gi_at_call 87; refine (callsIn_wide.2 (impl_StripeCount.calls k a0_0 a0_1 a0_2 a1 a2 t _ HS.out)).mono ?_; rintro e w1 ⟨rfl, hb⟩; have q0 : Aside0 (w1.heap[w.heap.size]? = some (.cells #[.int .i64 a0_0, .int .i64 a0_1, .int .i64 a0_2] 26 (0, 0))) := ⟨blk_below (blk_alloc (blk_new w _) _) hb⟩; have q1 : Aside0 (w1.heap[w.heap.size + 1]? = some (.cells #[.int .i64 0, .slice none 0 0] 56 (0, 0))) := ⟨blk_below (by have := blk_new (w.alloc (.cells #[.int .i64 a0_0, .int .i64 a0_1, .int .i64 a0_2] 26)) (.cells #[.int .i64 0, .slice none 0 0] 56); rwa [World.size_alloc] at this) hb⟩; have hz := hb.size; have HB := Aside0.mk (show Below w.heap.size w w1 from (((Below.refl _ w).alloc (Nat.le_refl _) _).alloc (by simp) _).trans (hb.mono (by simp; omega))); clear hb; have k0 := (blk_cell q0.out 0).trans rfl; have k1 := (blk_cell q0.out 1).trans rfl; have k2 := (blk_cell q0.out 2).trans rfl; have hl0 := blk_lt q0.out) | (refine ⟨trivial, ?_⟩; gi_at_call 88; refine (rr_maker _ a0_0 a0_1 a0_2 a1 a2 a3 a4 _).mono ?_; rintro e w2 ⟨rfl, rfl⟩))
  have hl1 := blk_lt q1.out
  obtain ⟨W0, hW0⟩ : ∃ W0, ((((w1.alloc (.cells #[.int .i64 0, .slice none 0 0] 56)).alloc (.cells #[.int .i64 a0_0, .int .i64 a0_1, .int .i64 a0_2, .int .i64 a1, .int .i64 a2] 118)).alloc (.cells #[.int .i64 a3] 2)).alloc (.cells #[.int .i64 a4] 2)) = W0 := ⟨_, rfl⟩
  have hsz : W0.heap.size = w1.heap.size + 4 := by rw [← hW0]; simp
  have bB : W0.heap[w1.heap.size]? = some (.cells #[.int .i64 0, .slice none 0 0] 56 (0, 0)) := by rw [← hW0]; exact blk_alloc (blk_alloc (blk_alloc (blk_new w1 _) _) _) _
  have bC : W0.heap[w1.heap.size + 1]? = some (.cells #[.int .i64 a0_0, .int .i64 a0_1, .int .i64 a0_2, .int .i64 a1, .int .i64 a2] 118 (0, 0)) := by
    rw [← hW0]; have := blk_new (w1.alloc (.cells #[.int .i64 0, .slice none 0 0] 56)) (.cells #[.int .i64 a0_0, .int .i64 a0_1, .int .i64 a0_2, .int .i64 a1, .int .i64 a2] 118); rw [World.size_alloc] at this; exact blk_alloc (blk_alloc this _) _
  have bF : W0.heap[w1.heap.size + 1 + 1]? = some (.cells #[.int .i64 a3] 2 (0, 0)) := by
    rw [← hW0]; have := blk_new ((w1.alloc (.cells #[.int .i64 0, .slice none 0 0] 56)).alloc (.cells #[.int .i64 a0_0, .int .i64 a0_1, .int .i64 a0_2, .int .i64 a1, .int .i64 a2] 118)) (.cells #[.int .i64 a3] 2); rw [World.size_alloc, World.size_alloc] at this; exact blk_alloc this _
  have bN : W0.heap[w1.heap.size + 1 + 1 + 1]? = some (.cells #[.int .i64 a4] 2 (0, 0)) := by
    rw [← hW0]; have := blk_new (((w1.alloc (.cells #[.int .i64 0, .slice none 0 0] 56)).alloc (.cells #[.int .i64 a0_0, .int .i64 a0_1, .int .i64 a0_2, .int .i64 a1, .int .i64 a2] 118)).alloc (.cells #[.int .i64 a3] 2)) (.cells #[.int .i64 a4] 2); rw [World.size_alloc, World.size_alloc, World.size_alloc] at this; exact this
  have bR : W0.heap[w.heap.size + 1]? = some (.cells #[.int .i64 0, .slice none 0 0] 56 (0, 0)) := by rw [← hW0]; exact blk_alloc (blk_alloc (blk_alloc (blk_alloc q1.out _) _) _) _
  have hB0 : Below w.heap.size w W0 := by rw [← hW0]; exact (((HB.out.alloc HB.out.size _).alloc (by simp; omega) _).alloc (by simp; omega) _).alloc (by simp; omega) _
  rw [hW0]
  clear hW0 k0 k1 k2 q0 q1 HB
  obtain ⟨b, hb⟩ : ∃ b, w1.heap.size = b := ⟨_, rfl⟩
  rw [hb] at bB bC bF bN hsz hl0 hl1 hz ⊢
  clear hb
  refine wpIn_rangeFunc_ownH rfl (by omega) (gf := 116) (lb := #[.pointer (some ⟨b + 1 + 1, 0, none⟩), .pointer (some ⟨b + 1, 0, none⟩), .pointer (some ⟨b + 1 + 1 + 1, 0, none⟩)]) rfl trivial (enters_of Try.func116 (by kernel_rfl) rfl)
    (rr_stops 5 (by omega) (b + 1 + 1) (b + 1) (b + 1 + 1 + 1) b a0_0 a0_1 a0_2 a1 a2 a3 a4 P HP.out hP1 hP2 hu1 hu2 hs0 hs h3 h4 W0 (by omega) (fun k hk => by obtain ⟨u, hu, hk⟩ := hk; rw [blk_cell bB] at hu; have hu' : some (Value.slice none 0 0) = some u := hu; injection hu' with hu'; subst hu'; exact absurd hk (by simp [Value.ownBlock])) bF bN bC (by omega))
    (fun h k => h.trans k) (fun W l o o' hl ho hc _ => rrKp.putObj W l o o' (by omega) ho hc) (Below.refl _ _) (fun _ => rfl)
    (rrI w b (w.heap.size + 1)) (fun _ _ _ => False) (rrI_own w b (w.heap.size + 1) _ (by omega)) (fun _ _ _ _ _ hs _ _ => hs)
    ⟨_, bB, Kd.R_nil _ _ _ _ _, bR, hB0⟩
    (rrA (fun p q => #[.agg #[.int .i64 a0_0, .int .i64 a0_1, .int .i64 a0_2], .int .i64 a1, .int .i64 a2, .int .i64 a3, .int .i64 a4, .pointer (some ⟨w.heap.size, 0, none⟩), undef, undef, undef, undef, .pointer (some ⟨w.heap.size + 1, 0, none⟩), .pointer (some ⟨b, 0, none⟩), p, .agg #[.int .i64 a0_0, .int .i64 a0_1, .int .i64 a0_2], .int .i64 a1, .int .i64 a2, .int .i64 t, .bool false, .bool false, .int .i64 a3, .bool false, .bool false, .bool false, .int .i64 a4, .bool false, .bool false, undef, .agg #[.int .i64 0, .slice none 0 0], .agg #[.int .i64 a0_0, .int .i64 a0_1, .int .i64 a0_2], .int .i64 a1, .int .i64 a2, .agg #[.int .i64 a0_0, .int .i64 a0_1, .int .i64 a0_2, .int .i64 a1, .int .i64 a2], .int .i64 a3, .int .i64 a4, .func (.func 116) #[] #[.pointer (some ⟨b + 1 + 1, 0, none⟩), .pointer (some ⟨b + 1, 0, none⟩), .pointer (some ⟨b + 1 + 1 + 1, 0, none⟩)], q, undef, undef, undef, undef, undef, undef, undef]))
    (fun _ _ => rrA_own _ _ _ _) ?assign ?body ?done ?stop
  case assign =>
    intro l pre x W K hI hK
    have HI := Aside0.mk hI
    have HK := Aside0.mk hK
    clear hI hK
    dsimp only [rrEnc]
    gi_wp2
    have hbl : b < W.heap.size := by obtain ⟨v, h1, _⟩ := HI.out; exact blk_lt h1
    exact HK.out _ _ ((KeepsOthers.alloc _ _).from _) (rrKp.alloc _ _ hbl) ((rrI_own w b (w.heap.size + 1) W0.heap.size (by omega)).alloc _ HI.out) ⟨W.heap.size, blk_new W _, rfl⟩
  case body =>
    rintro l pre x a' W hl _ ⟨v, h1, h2, h3, h4⟩ ⟨bx, hbx, rfl⟩ hlt
    have hv : W.cell? ⟨b, 1, none⟩ = some v := (blk_cell h1 1).trans rfl
    have hx0 : W.cell? ⟨bx, 0, none⟩ = some (.int .i64 x.f0) := (blk_cell hbx 0).trans rfl
    have hx1 : W.cell? ⟨bx, 1, none⟩ = some (.int .i64 x.f1) := (blk_cell hbx 1).trans rfl
    have hx2 : W.cell? ⟨bx, 2, none⟩ = some (.int .i64 x.f2) := (blk_cell hbx 2).trans rfl
    have hx3 : W.cell? ⟨bx, 3, none⟩ = some (.int .i64 x.f3) := (blk_cell hbx 3).trans rfl
    have H1 := Aside0.mk h1
    have H2 := Aside0.mk h2
    have H3 := Aside0.mk h3
    have H4 := Aside0.mk h4
    have hsz4 := h4.size
    clear h1 h2 h3 h4 hbx
    gi_wp2_with (gi_at_builtin; refine rr_appendIn w.heap.size rfl (.tmp 37) (.tmp 39) rfl Try.underlying54 rrInfo84 v pre x rfl rfl H2.out hsz4 (by omega) ?_; rintro v1 w2 ⟨g, cp, rfl⟩ hR1 hg hat; obtain ⟨r1, r2, r3, r4⟩ := rr_round (B := b) (R := w.heap.size + 1) (by omega) (by omega) H1.out H2.out H3.out H4.out hR1 hg hat W0.heap.size; have hcB := (blk_cell r1 1).trans rfl; have hfB := blk_frozen r1 1)
    exact ⟨r2, r3, r4⟩
  case done =>
    rintro D ys W hD rfl ⟨v, h1, h2, h3, h4⟩ hK
    have hv0 : W.cell? ⟨b, 0, none⟩ = some (.int .i64 0) := (blk_cell h1 0).trans rfl
    have hv : W.cell? ⟨b, 1, none⟩ = some v := (blk_cell h1 1).trans rfl
    have hw0 : W.cell? ⟨w.heap.size + 1, 0, none⟩ = some (.int .i64 0) := (blk_cell h3 0).trans rfl
    have hw1 : W.cell? ⟨w.heap.size + 1, 1, none⟩ = some (.slice none 0 0) := (blk_cell h3 1).trans rfl
    have hf0 := blk_frozen h3 0
    have hf1 := blk_frozen h3 1
    obtain ⟨_, inner, hown, _⟩ := id h2
    have H1 := Aside0.mk h1
    have H2 := Aside0.mk h2
    have H3 := Aside0.mk h3
    have H4 := Aside0.mk h4
    have HK := Aside0.mk hK
    clear h1 h2 h3 h4 hK
    rcases hown.2 with ⟨rfl, _⟩ | ⟨g, cap, cur, rfl, _, hgb, _⟩
    · clear hown
      gi_wp2
      have hK' : ((W.setCell ⟨w.heap.size + 1, 0, none⟩ (.int .i64 0)).setCell ⟨w.heap.size + 1, 1, none⟩ (.slice none 0 0)).heap[D]? = some (.deferred (some [])) := ((KeepsOthers.setCell _ _ _).trans (KeepsOthers.setCell _ _ _)).same D _ HK.out rfl
      have hbR : ((W.setCell ⟨w.heap.size + 1, 0, none⟩ (.int .i64 0)).setCell ⟨w.heap.size + 1, 1, none⟩ (.slice none 0 0)).heap[w.heap.size + 1]? = some (.cells #[.int .i64 0, .slice none 0 0] 56 (0, 0)) := blk_put (cs := #[.int .i64 0, .slice none 0 0]) (blk_put (cs := #[.int .i64 0, .slice none 0 0]) H3.out 0 _ rfl) 1 _ rfl
      refine ⟨by simp, .inl ⟨_, _, rfl, run_takeDeferred hK', ?_⟩⟩
      have hgo := grownBy_putObj' ((W.setCell ⟨w.heap.size + 1, 0, none⟩ (.int .i64 0)).setCell ⟨w.heap.size + 1, 1, none⟩ (.slice none 0 0)) D (.deferred none)
      have hbR2 := blk_grown hbR hgo (by simp; omega)
      have hRR : k84.R 84 (((W.setCell ⟨w.heap.size + 1, 0, none⟩ (.int .i64 0)).setCell ⟨w.heap.size + 1, 1, none⟩ (.slice none 0 0)).putObj D (.deferred none)) w.heap.size (fun _ => True) (.slice none 0 0) (rrAll P a1 a2 a3 a4) := by
        have r1 := Kd.R_types (Kd.R_far (Kd.R_far (Kd.R_types H2.out H3.out (by decide)) (fun k hk => hk.2) (.int .i64 0)) (p := ⟨w.heap.size + 1, 1, none⟩) (fun k hk => hk.2) (.slice none 0 0)) hbR (by decide)
        refine Kd.R_mono (Kd.R_grown (Kd.R_bound r1) hgo (fun k hk e => ?_)) (fun _ _ => trivial)
        obtain ⟨_, _, _, q, _, cells, hc⟩ := hk
        injection e with e
        subst e
        rw [hK'] at hc
        cases hc
      refine ⟨_, results_cell_row rfl _ _ (w.heap.size + 1) 56 #[.int .i64 0, .slice none 0 0] (0, 0) _ rfl hbR2 Try.underlying56 rfl (by kernel_rfl), _, rfl, hRR, ?_⟩
      exact ((H4.out.setCell (by simp) _).setCell (by simp) _).grown hgo (by have := H4.out.size; simpa using this) (fun k e => by injection e with e; subst e; omega)
    · clear hown hgb
      gi_wp2
      have hK' : ((W.setCell ⟨w.heap.size + 1, 0, none⟩ (.int .i64 0)).setCell ⟨w.heap.size + 1, 1, none⟩ (.slice (some ⟨g, 0, none⟩) (rrAll P a1 a2 a3 a4).length cap)).heap[D]? = some (.deferred (some [])) := ((KeepsOthers.setCell _ _ _).trans (KeepsOthers.setCell _ _ _)).same D _ HK.out rfl
      have hbR : ((W.setCell ⟨w.heap.size + 1, 0, none⟩ (.int .i64 0)).setCell ⟨w.heap.size + 1, 1, none⟩ (.slice (some ⟨g, 0, none⟩) (rrAll P a1 a2 a3 a4).length cap)).heap[w.heap.size + 1]? = some (.cells #[.int .i64 0, .slice (some ⟨g, 0, none⟩) (rrAll P a1 a2 a3 a4).length cap] 56 (0, 0)) := blk_put (cs := #[.int .i64 0, .slice none 0 0]) (blk_put (cs := #[.int .i64 0, .slice none 0 0]) H3.out 0 _ rfl) 1 _ rfl
      refine ⟨by simp, .inl ⟨_, _, rfl, run_takeDeferred hK', ?_⟩⟩
      have hgo := grownBy_putObj' ((W.setCell ⟨w.heap.size + 1, 0, none⟩ (.int .i64 0)).setCell ⟨w.heap.size + 1, 1, none⟩ (.slice (some ⟨g, 0, none⟩) (rrAll P a1 a2 a3 a4).length cap)) D (.deferred none)
      have hbR2 := blk_grown hbR hgo (by simp; omega)
      have hRR : k84.R 84 (((W.setCell ⟨w.heap.size + 1, 0, none⟩ (.int .i64 0)).setCell ⟨w.heap.size + 1, 1, none⟩ (.slice (some ⟨g, 0, none⟩) (rrAll P a1 a2 a3 a4).length cap)).putObj D (.deferred none)) w.heap.size (fun _ => True) (.slice (some ⟨g, 0, none⟩) (rrAll P a1 a2 a3 a4).length cap) (rrAll P a1 a2 a3 a4) := by
        have r1 := Kd.R_types (Kd.R_far (Kd.R_far (Kd.R_types H2.out H3.out (by decide)) (fun k hk => hk.2) (.int .i64 0)) (p := ⟨w.heap.size + 1, 1, none⟩) (fun k hk => hk.2) (.slice (some ⟨g, 0, none⟩) (rrAll P a1 a2 a3 a4).length cap)) hbR (by decide)
        refine Kd.R_mono (Kd.R_grown (Kd.R_bound r1) hgo (fun k hk e => ?_)) (fun _ _ => trivial)
        obtain ⟨_, _, _, q, _, cells, hc⟩ := hk
        injection e with e
        subst e
        rw [hK'] at hc
        cases hc
      refine ⟨_, results_cell_row rfl _ _ (w.heap.size + 1) 56 #[.int .i64 0, .slice (some ⟨g, 0, none⟩) (rrAll P a1 a2 a3 a4).length cap] (0, 0) _ rfl hbR2 Try.underlying56 rfl (by kernel_rfl), _, rfl, hRR, ?_⟩
      exact ((H4.out.setCell (by simp) _).setCell (by simp) _).grown hgo (by have := H4.out.size; simpa using this) (fun k e => by injection e with e; subst e; omega)
  case stop =>
    rintro D c pre W _ _ h _
    exact h.elim
set_option maxHeartbeats 8000000 in
set_option maxRecDepth 100000 in
theorem rr_err (k : Nat) (a0_0 a0_1 a0_2 a1 a2 a3 a4 t : Int) (w : World) (hS : impl_StripeCount.f k a0_0 a0_1 a0_2 a1 a2 = some t) (ht : t < 0 ∨ a3 < 0 ∨ a4 < 0) :
    Calls Try.prog 36 #[.agg #[.int .i64 a0_0, .int .i64 a0_1, .int .i64 a0_2], .int .i64 a1, .int .i64 a2, .int .i64 a3, .int .i64 a4] w fun e w' => e = .returned (.agg #[.int .i64 1, .slice none 0 0]) ∧ Below w.heap.size w w' := by
  have HS := Aside0.mk hS
  clear hS
  have key : (∃ b : Bool, decide (t < 0) = b ∧ ∃ c : Bool, decide (a3 < 0) = c ∧ ∃ d : Bool, decide (a4 < 0) = d ∧ (b || c || d) = true) := ⟨_, rfl, _, rfl, _, rfl, by simp; omega⟩
  clear ht
  obtain ⟨b, hb, c, hc, d, hd, hbcd⟩ := key
  go_enter Try.func36, Try.ntmps36
  cases b <;> cases c <;> cases d <;> first | exact absurd hbcd (by decide) | skip
  all_goals
    clear hbcd
    go_wp2_with (go_at_call 87; refine (impl_StripeCount.calls k a0_0 a0_1 a0_2 a1 a2 t _ HS.out).mono ?_; rintro e w1 ⟨rfl, hb⟩; have q1 : Aside0 (w1.heap[w.heap.size + 1]? = some (.cells #[.int .i64 0, .slice none 0 0] 56 (0, 0))) := ⟨blk_below (by have := blk_new (w.alloc (.cells #[.int .i64 a0_0, .int .i64 a0_1, .int .i64 a0_2] 26)) (.cells #[.int .i64 0, .slice none 0 0] 56); rwa [World.size_alloc] at this) hb⟩; have HB := Aside0.mk (show Below w.heap.size w w1 from (((Below.refl _ w).alloc (Nat.le_refl _) _).alloc (by simp) _).trans (hb.mono (by simp; omega))); clear hb; have k0 := (blk_cell q1.out 0).trans rfl; have k1 := (blk_cell q1.out 1).trans rfl; have f0 := blk_frozen q1.out 0; have f1 := blk_frozen q1.out 1)
    refine bodyPost_ret (results_cell_row rfl _ _ (w.heap.size + 1) 56 #[.int .i64 1, .slice none 0 0] (0, 0) _ rfl (blk_put (cs := #[.int .i64 1, .slice none 0 0]) (blk_put (cs := #[.int .i64 0, .slice none 0 0]) q1.out 0 _ rfl) 1 _ rfl) Try.underlying56 rfl (by kernel_rfl)) rfl ?_
    exact ⟨rfl, (HB.out.setCell (by simp) _).setCell (by simp) _⟩
end
def impl_RangeReads.f (k : Nat) (a0_0 : Int) (a0_1 : Int) (a0_2 : Int) (a1 : Int) (a2 : Int) (a3 : Int) (a4 : Int) : Option (Int × (List (S84))) := (impl_StripeCount.f k a0_0 a0_1 a0_2 a1 a2).bind fun t => (if t < 0 then (some (1, ([] : List (S84)))) else (if a3 < 0 then (some (1, ([] : List (S84)))) else (if a4 < 0 then (some (1, ([] : List (S84)))) else (if (1 ≤ wrap64 (a0_0 * a1) ∧ wrap64 (a0_0 * a1) ≤ 1000000000000) ∧ (1 ≤ a1 ∧ a1 ≤ 1000000000000) ∧ (0 ≤ a2 ∧ a2 ≤ 1000000000000) then (some (0, rrAll (wrap64 (a0_0 * a1)) a1 a2 a3 a4)) else (none)))))
theorem impl_RangeReads.mono : ∀ a0 a1 a2 a3 a4 a5 a6 k, LeO (impl_RangeReads.f k a0 a1 a2 a3 a4 a5 a6) (impl_RangeReads.f (k + 1) a0 a1 a2 a3 a4 a5 a6) := by
  intro a0 a1 a2 a3 a4 a5 a6 k
  unfold impl_RangeReads.f
  exact LeO.bind (impl_StripeCount.mono _ _ _ _ _ _) (fun _ => LeO.refl _)
theorem impl_RangeReads.calls (k : Nat) (a0_0 : Int) (a0_1 : Int) (a0_2 : Int) (a1 : Int) (a2 : Int) (a3 : Int) (a4 : Int) (r1 : Int) (r2 : List (S84)) (w : World) (h : impl_RangeReads.f k a0_0 a0_1 a0_2 a1 a2 a3 a4 = some (r1, r2)) :
    Calls Try.prog 36 #[.agg #[.int .i64 a0_0, .int .i64 a0_1, .int .i64 a0_2], .int .i64 a1, .int .i64 a2, .int .i64 a3, .int .i64 a4] w fun e w' => ∃ v1_ : Value, e = .returned (.agg #[.int .i64 r1, v1_]) ∧ Kd.R k84 84 w' w.heap.size (fun _ => True) v1_ r2 ∧ Below w.heap.size w w' := by
  unfold impl_RangeReads.f at h
  obtain ⟨t, hS, h⟩ := Option.bind_eq_some_iff.mp h
  by_cases hE : t < 0 ∨ a3 < 0 ∨ a4 < 0
  · have e0 : (1, ([] : List S84)) = (r1, r2) := by
      rcases hE with hE | hE | hE
      · rw [if_pos hE] at h; exact Option.some.inj h
      · rw [if_pos hE] at h; split at h <;> exact Option.some.inj h
      · rw [if_pos hE] at h; split at h
        · exact Option.some.inj h
        · split at h <;> exact Option.some.inj h
    obtain ⟨rfl, rfl⟩ := Prod.mk.inj e0
    exact (rr_err k a0_0 a0_1 a0_2 a1 a2 a3 a4 t w hS hE).mono fun e w' ⟨he, hb⟩ => ⟨_, he, Kd.R_nil _ _ _ _ _, hb⟩
  · rw [if_neg (by omega), if_neg (by omega), if_neg (by omega)] at h
    split at h
    case isFalse => cases h
    case isTrue hg =>
      obtain ⟨rfl, rfl⟩ := Prod.mk.inj (Option.some.inj h)
      obtain ⟨⟨p1, p2⟩, ⟨p3, p4⟩, p5, p6⟩ := hg
      exact callsIn_wide.1 (rr_caller k a0_0 a0_1 a0_2 a1 a2 a3 a4 t _ w hS (by omega) (by omega) (by omega) rfl p1 p2 p3 p4 p5 p6)

/-! ### laws_eqShardRange: function 117 -/
def laws_eqShardRange.f (a0_0 : Int) (a0_1 : Int) (a0_2 : Int) (a0_3 : Int) (a1_0 : Int) (a1_1 : Int) (a1_2 : Int) (a1_3 : Int) : Option (Bool) := if a0_0 = a1_0 then (if a0_1 = a1_1 then (if a0_2 = a1_2 then (if a0_3 = a1_3 then (some true) else (some false)) else (some false)) else (some false)) else (some false)
set_option maxHeartbeats 8000000 in
set_option maxRecDepth 100000 in
theorem laws_eqShardRange.calls (a0_0 : Int) (a0_1 : Int) (a0_2 : Int) (a0_3 : Int) (a1_0 : Int) (a1_1 : Int) (a1_2 : Int) (a1_3 : Int) (r : Bool) (w : World) (h : laws_eqShardRange.f a0_0 a0_1 a0_2 a0_3 a1_0 a1_1 a1_2 a1_3 = some r) :
    Calls Try.prog 117 #[.agg #[.int .i64 a0_0, .int .i64 a0_1, .int .i64 a0_2, .int .i64 a0_3], .agg #[.int .i64 a1_0, .int .i64 a1_1, .int .i64 a1_2, .int .i64 a1_3]] w fun e w' => e = .returned (.bool r) ∧ Below w.heap.size w w' := by
  have hu84 := Try.underlying84
  have HB := Aside0.mk (Below.refl w.heap.size w)
  have H : (if a0_0 = a1_0 then (if a0_1 = a1_1 then (if a0_2 = a1_2 then (if a0_3 = a1_3 then (some true) else (some false)) else (some false)) else (some false)) else (some false)) = some r := h
  clear h
  by_cases c3 : a0_0 = a1_0
  · rw [if_pos c3] at H
    have c3b0 : (a0_0 == a1_0) = true := beq_iff_eq.mpr c3
    have c3b1 : (a0_0 != a1_0) = false := bne_eq_false_iff_eq.mpr c3
    clear c3
    by_cases c4 : a0_1 = a1_1
    · rw [if_pos c4] at H
      have c4b0 : (a0_1 == a1_1) = true := beq_iff_eq.mpr c4
      have c4b1 : (a0_1 != a1_1) = false := bne_eq_false_iff_eq.mpr c4
      clear c4
      by_cases c5 : a0_2 = a1_2
      · rw [if_pos c5] at H
        have c5b0 : (a0_2 == a1_2) = true := beq_iff_eq.mpr c5
        have c5b1 : (a0_2 != a1_2) = false := bne_eq_false_iff_eq.mpr c5
        clear c5
        by_cases c6 : a0_3 = a1_3
        · rw [if_pos c6] at H
          have c6b0 : (a0_3 == a1_3) = true := beq_iff_eq.mpr c6
          have c6b1 : (a0_3 != a1_3) = false := bne_eq_false_iff_eq.mpr c6
          clear c6
          obtain rfl := Option.some.inj H
          go_enter Try.func117, Try.ntmps117
          go_wp2_with (first | ((with_reducible refine gate_dst (N := 2) rfl ?_); refine box_event ?hg (N := 2) ?hd (cs := #[.int .i64 a0_0, .int .i64 a0_1, .int .i64 a0_2, .int .i64 a0_3]) (t := 84) ?hr ?_; (case hd => rfl); (case hg => rfl); (case hr => first | (go_simp; done) | (go_simp; rfl)); intro gb110 hg w7 hbox hb; have n0_ := Aside0.mk (below_step (by repeat (first | (with_reducible first | exact HB.out | apply below_alloc | apply pw_below_drewN | apply below_drew1) | exact HB.out)) hb); have n1_ := Aside0.mk (hbox); have n2_ := Aside0.mk ((by rw [hg]; exact (below_size (by repeat (first | (with_reducible first | exact HB.out | apply below_alloc | apply pw_below_drewN | apply below_drew1) | exact HB.out))) : w.heap.size ≤ gb110)); have n3_ := Aside0.mk ((by rw [hg]; exact (below_size (by repeat (first | (with_reducible first | exact HB.out | apply below_alloc | apply pw_below_drewN | apply below_drew1) | exact HB.out))) : w.heap.size ≤ gb110)); clear HB; have HB := n0_; have BK110 := n1_; have GW110 := n2_; have GE110 := n3_; clear n0_ n1_ n2_ n3_; clear hb hbox hg) | ((with_reducible refine gate_dst (N := 3) rfl ?_); refine box_event ?hg (N := 3) ?hd (cs := #[.int .i64 a1_0, .int .i64 a1_1, .int .i64 a1_2, .int .i64 a1_3]) (t := 84) ?hr ?_; (case hd => rfl); (case hg => rfl); (case hr => first | (go_simp; done) | (go_simp; rfl)); intro gb111 hg w8 hbox hb; have n0_ := Aside0.mk (blk_below (g := gb110) (o := .cells #[.int .i64 a0_0, .int .i64 a0_1, .int .i64 a0_2, .int .i64 a0_3] 84 (0, 0)) (by (with_reducible repeat (first | refine blk_drewN ?_ _ | refine blk_drew ?_ | refine blk_alloc ?_ _)); exact BK110.out) hb); have n1_ := Aside0.mk (below_step (by repeat (first | (with_reducible first | exact HB.out | apply below_alloc | apply pw_below_drewN | apply below_drew1 | refine below_set ?_ GE110.out) | exact HB.out)) hb); have n2_ := Aside0.mk (hbox); have n3_ := Aside0.mk ((by rw [hg]; exact (below_size (by repeat (first | (with_reducible first | exact HB.out | apply below_alloc | apply pw_below_drewN | apply below_drew1 | refine below_set ?_ GE110.out) | exact HB.out))) : w.heap.size ≤ gb111)); have n4_ := Aside0.mk ((by rw [hg]; exact (below_size (by repeat (first | (with_reducible first | exact HB.out | apply below_alloc | apply pw_below_drewN | apply below_drew1 | refine below_set ?_ GE110.out) | exact HB.out))) : w.heap.size ≤ gb111)); have n5_ := Aside0.mk ((by rw [hg]; exact Nat.ne_of_lt (blk_lt (g := gb110) (o := .cells #[.int .i64 a0_0, .int .i64 a0_1, .int .i64 a0_2, .int .i64 a0_3] 84 (0, 0)) (by (with_reducible repeat (first | refine blk_drewN ?_ _ | refine blk_drew ?_ | refine blk_alloc ?_ _)); exact BK110.out)) : gb110 ≠ gb111)); have n6_ := Aside0.mk ((by rw [hg]; exact Nat.ne_of_gt (blk_lt (g := gb110) (o := .cells #[.int .i64 a0_0, .int .i64 a0_1, .int .i64 a0_2, .int .i64 a0_3] 84 (0, 0)) (by (with_reducible repeat (first | refine blk_drewN ?_ _ | refine blk_drew ?_ | refine blk_alloc ?_ _)); exact BK110.out)) : gb111 ≠ gb110)); clear BK110; clear HB; have BK110 := n0_; have HB := n1_; have BK111 := n2_; have GW111 := n3_; have GE111 := n4_; have NB110_111 := n5_; have NB111_110 := n6_; clear n0_ n1_ n2_ n3_ n4_ n5_ n6_; clear hb hbox hg; have hnb9 := NB110_111.out; have hnc9 := NB111_110.out; have hcz10_0 : w8.cell? ⟨gb110, 0, none⟩ = some (.int .i64 a0_0) := (blk_cell BK110.out 0).trans rfl; have hcz10_1 : w8.cell? ⟨gb110, 1, none⟩ = some (.int .i64 a0_1) := (blk_cell BK110.out 1).trans rfl; have hcz10_2 : w8.cell? ⟨gb110, 2, none⟩ = some (.int .i64 a0_2) := (blk_cell BK110.out 2).trans rfl; have hcz10_3 : w8.cell? ⟨gb110, 3, none⟩ = some (.int .i64 a0_3) := (blk_cell BK110.out 3).trans rfl; have hfz10_0 := blk_frozen BK110.out 0; have hfz10_1 := blk_frozen BK110.out 1; have hfz10_2 := blk_frozen BK110.out 2; have hfz10_3 := blk_frozen BK110.out 3; have hcz11_0 : w8.cell? ⟨gb111, 0, none⟩ = some (.int .i64 a1_0) := (blk_cell BK111.out 0).trans rfl; have hcz11_1 : w8.cell? ⟨gb111, 1, none⟩ = some (.int .i64 a1_1) := (blk_cell BK111.out 1).trans rfl; have hcz11_2 : w8.cell? ⟨gb111, 2, none⟩ = some (.int .i64 a1_2) := (blk_cell BK111.out 2).trans rfl; have hcz11_3 : w8.cell? ⟨gb111, 3, none⟩ = some (.int .i64 a1_3) := (blk_cell BK111.out 3).trans rfl; have hfz11_0 := blk_frozen BK111.out 0; have hfz11_1 := blk_frozen BK111.out 1; have hfz11_2 := blk_frozen BK111.out 2; have hfz11_3 := blk_frozen BK111.out 3))
          go_ret
          exact ⟨by first | rfl | (simp [errW_none, errW_some] <;> rfl) | (simp [*, errW_none, errW_some] <;> rfl), by repeat (first | (with_reducible first | exact HB.out | apply below_alloc | apply pw_below_drewN | apply below_drew1 | refine below_set ?_ GE110.out | refine below_set ?_ GE111.out) | exact HB.out)⟩
        · rw [if_neg c6] at H
          have c6b0 : (a0_3 == a1_3) = false := beq_eq_false_iff_ne.mpr c6
          have c6b1 : (a0_3 != a1_3) = true := bne_iff_ne.mpr c6
          obtain rfl := Option.some.inj H
          go_enter Try.func117, Try.ntmps117
          go_wp2_with (first | ((with_reducible refine gate_dst (N := 2) rfl ?_); refine box_event ?hg (N := 2) ?hd (cs := #[.int .i64 a0_0, .int .i64 a0_1, .int .i64 a0_2, .int .i64 a0_3]) (t := 84) ?hr ?_; (case hd => rfl); (case hg => rfl); (case hr => first | (go_simp; done) | (go_simp; rfl)); intro gb110 hg w12 hbox hb; have n0_ := Aside0.mk (below_step (by repeat (first | (with_reducible first | exact HB.out | apply below_alloc | apply pw_below_drewN | apply below_drew1) | exact HB.out)) hb); have n1_ := Aside0.mk (hbox); have n2_ := Aside0.mk ((by rw [hg]; exact (below_size (by repeat (first | (with_reducible first | exact HB.out | apply below_alloc | apply pw_below_drewN | apply below_drew1) | exact HB.out))) : w.heap.size ≤ gb110)); have n3_ := Aside0.mk ((by rw [hg]; exact (below_size (by repeat (first | (with_reducible first | exact HB.out | apply below_alloc | apply pw_below_drewN | apply below_drew1) | exact HB.out))) : w.heap.size ≤ gb110)); clear HB; have HB := n0_; have BK110 := n1_; have GW110 := n2_; have GE110 := n3_; clear n0_ n1_ n2_ n3_; clear hb hbox hg) | ((with_reducible refine gate_dst (N := 3) rfl ?_); refine box_event ?hg (N := 3) ?hd (cs := #[.int .i64 a1_0, .int .i64 a1_1, .int .i64 a1_2, .int .i64 a1_3]) (t := 84) ?hr ?_; (case hd => rfl); (case hg => rfl); (case hr => first | (go_simp; done) | (go_simp; rfl)); intro gb111 hg w13 hbox hb; have n0_ := Aside0.mk (blk_below (g := gb110) (o := .cells #[.int .i64 a0_0, .int .i64 a0_1, .int .i64 a0_2, .int .i64 a0_3] 84 (0, 0)) (by (with_reducible repeat (first | refine blk_drewN ?_ _ | refine blk_drew ?_ | refine blk_alloc ?_ _)); exact BK110.out) hb); have n1_ := Aside0.mk (below_step (by repeat (first | (with_reducible first | exact HB.out | apply below_alloc | apply pw_below_drewN | apply below_drew1 | refine below_set ?_ GE110.out) | exact HB.out)) hb); have n2_ := Aside0.mk (hbox); have n3_ := Aside0.mk ((by rw [hg]; exact (below_size (by repeat (first | (with_reducible first | exact HB.out | apply below_alloc | apply pw_below_drewN | apply below_drew1 | refine below_set ?_ GE110.out) | exact HB.out))) : w.heap.size ≤ gb111)); have n4_ := Aside0.mk ((by rw [hg]; exact (below_size (by repeat (first | (with_reducible first | exact HB.out | apply below_alloc | apply pw_below_drewN | apply below_drew1 | refine below_set ?_ GE110.out) | exact HB.out))) : w.heap.size ≤ gb111)); have n5_ := Aside0.mk ((by rw [hg]; exact Nat.ne_of_lt (blk_lt (g := gb110) (o := .cells #[.int .i64 a0_0, .int .i64 a0_1, .int .i64 a0_2, .int .i64 a0_3] 84 (0, 0)) (by (with_reducible repeat (first | refine blk_drewN ?_ _ | refine blk_drew ?_ | refine blk_alloc ?_ _)); exact BK110.out)) : gb110 ≠ gb111)); have n6_ := Aside0.mk ((by rw [hg]; exact Nat.ne_of_gt (blk_lt (g := gb110) (o := .cells #[.int .i64 a0_0, .int .i64 a0_1, .int .i64 a0_2, .int .i64 a0_3] 84 (0, 0)) (by (with_reducible repeat (first | refine blk_drewN ?_ _ | refine blk_drew ?_ | refine blk_alloc ?_ _)); exact BK110.out)) : gb111 ≠ gb110)); clear BK110; clear HB; have BK110 := n0_; have HB := n1_; have BK111 := n2_; have GW111 := n3_; have GE111 := n4_; have NB110_111 := n5_; have NB111_110 := n6_; clear n0_ n1_ n2_ n3_ n4_ n5_ n6_; clear hb hbox hg; have hnb14 := NB110_111.out; have hnc14 := NB111_110.out; have hcz15_0 : w13.cell? ⟨gb110, 0, none⟩ = some (.int .i64 a0_0) := (blk_cell BK110.out 0).trans rfl; have hcz15_1 : w13.cell? ⟨gb110, 1, none⟩ = some (.int .i64 a0_1) := (blk_cell BK110.out 1).trans rfl; have hcz15_2 : w13.cell? ⟨gb110, 2, none⟩ = some (.int .i64 a0_2) := (blk_cell BK110.out 2).trans rfl; have hcz15_3 : w13.cell? ⟨gb110, 3, none⟩ = some (.int .i64 a0_3) := (blk_cell BK110.out 3).trans rfl; have hfz15_0 := blk_frozen BK110.out 0; have hfz15_1 := blk_frozen BK110.out 1; have hfz15_2 := blk_frozen BK110.out 2; have hfz15_3 := blk_frozen BK110.out 3; have hcz16_0 : w13.cell? ⟨gb111, 0, none⟩ = some (.int .i64 a1_0) := (blk_cell BK111.out 0).trans rfl; have hcz16_1 : w13.cell? ⟨gb111, 1, none⟩ = some (.int .i64 a1_1) := (blk_cell BK111.out 1).trans rfl; have hcz16_2 : w13.cell? ⟨gb111, 2, none⟩ = some (.int .i64 a1_2) := (blk_cell BK111.out 2).trans rfl; have hcz16_3 : w13.cell? ⟨gb111, 3, none⟩ = some (.int .i64 a1_3) := (blk_cell BK111.out 3).trans rfl; have hfz16_0 := blk_frozen BK111.out 0; have hfz16_1 := blk_frozen BK111.out 1; have hfz16_2 := blk_frozen BK111.out 2; have hfz16_3 := blk_frozen BK111.out 3))
          go_ret
          exact ⟨by first | rfl | (simp [errW_none, errW_some] <;> rfl) | (simp [*, errW_none, errW_some] <;> rfl), by repeat (first | (with_reducible first | exact HB.out | apply below_alloc | apply pw_below_drewN | apply below_drew1 | refine below_set ?_ GE110.out | refine below_set ?_ GE111.out) | exact HB.out)⟩
      · rw [if_neg c5] at H
        have c5b0 : (a0_2 == a1_2) = false := beq_eq_false_iff_ne.mpr c5
        have c5b1 : (a0_2 != a1_2) = true := bne_iff_ne.mpr c5
        obtain rfl := Option.some.inj H
        go_enter Try.func117, Try.ntmps117
        go_wp2_with (first | ((with_reducible refine gate_dst (N := 2) rfl ?_); refine box_event ?hg (N := 2) ?hd (cs := #[.int .i64 a0_0, .int .i64 a0_1, .int .i64 a0_2, .int .i64 a0_3]) (t := 84) ?hr ?_; (case hd => rfl); (case hg => rfl); (case hr => first | (go_simp; done) | (go_simp; rfl)); intro gb110 hg w17 hbox hb; have n0_ := Aside0.mk (below_step (by repeat (first | (with_reducible first | exact HB.out | apply below_alloc | apply pw_below_drewN | apply below_drew1) | exact HB.out)) hb); have n1_ := Aside0.mk (hbox); have n2_ := Aside0.mk ((by rw [hg]; exact (below_size (by repeat (first | (with_reducible first | exact HB.out | apply below_alloc | apply pw_below_drewN | apply below_drew1) | exact HB.out))) : w.heap.size ≤ gb110)); have n3_ := Aside0.mk ((by rw [hg]; exact (below_size (by repeat (first | (with_reducible first | exact HB.out | apply below_alloc | apply pw_below_drewN | apply below_drew1) | exact HB.out))) : w.heap.size ≤ gb110)); clear HB; have HB := n0_; have BK110 := n1_; have GW110 := n2_; have GE110 := n3_; clear n0_ n1_ n2_ n3_; clear hb hbox hg) | ((with_reducible refine gate_dst (N := 3) rfl ?_); refine box_event ?hg (N := 3) ?hd (cs := #[.int .i64 a1_0, .int .i64 a1_1, .int .i64 a1_2, .int .i64 a1_3]) (t := 84) ?hr ?_; (case hd => rfl); (case hg => rfl); (case hr => first | (go_simp; done) | (go_simp; rfl)); intro gb111 hg w18 hbox hb; have n0_ := Aside0.mk (blk_below (g := gb110) (o := .cells #[.int .i64 a0_0, .int .i64 a0_1, .int .i64 a0_2, .int .i64 a0_3] 84 (0, 0)) (by (with_reducible repeat (first | refine blk_drewN ?_ _ | refine blk_drew ?_ | refine blk_alloc ?_ _)); exact BK110.out) hb); have n1_ := Aside0.mk (below_step (by repeat (first | (with_reducible first | exact HB.out | apply below_alloc | apply pw_below_drewN | apply below_drew1 | refine below_set ?_ GE110.out) | exact HB.out)) hb); have n2_ := Aside0.mk (hbox); have n3_ := Aside0.mk ((by rw [hg]; exact (below_size (by repeat (first | (with_reducible first | exact HB.out | apply below_alloc | apply pw_below_drewN | apply below_drew1 | refine below_set ?_ GE110.out) | exact HB.out))) : w.heap.size ≤ gb111)); have n4_ := Aside0.mk ((by rw [hg]; exact (below_size (by repeat (first | (with_reducible first | exact HB.out | apply below_alloc | apply pw_below_drewN | apply below_drew1 | refine below_set ?_ GE110.out) | exact HB.out))) : w.heap.size ≤ gb111)); have n5_ := Aside0.mk ((by rw [hg]; exact Nat.ne_of_lt (blk_lt (g := gb110) (o := .cells #[.int .i64 a0_0, .int .i64 a0_1, .int .i64 a0_2, .int .i64 a0_3] 84 (0, 0)) (by (with_reducible repeat (first | refine blk_drewN ?_ _ | refine blk_drew ?_ | refine blk_alloc ?_ _)); exact BK110.out)) : gb110 ≠ gb111)); have n6_ := Aside0.mk ((by rw [hg]; exact Nat.ne_of_gt (blk_lt (g := gb110) (o := .cells #[.int .i64 a0_0, .int .i64 a0_1, .int .i64 a0_2, .int .i64 a0_3] 84 (0, 0)) (by (with_reducible repeat (first | refine blk_drewN ?_ _ | refine blk_drew ?_ | refine blk_alloc ?_ _)); exact BK110.out)) : gb111 ≠ gb110)); clear BK110; clear HB; have BK110 := n0_; have HB := n1_; have BK111 := n2_; have GW111 := n3_; have GE111 := n4_; have NB110_111 := n5_; have NB111_110 := n6_; clear n0_ n1_ n2_ n3_ n4_ n5_ n6_; clear hb hbox hg; have hnb19 := NB110_111.out; have hnc19 := NB111_110.out; have hcz20_0 : w18.cell? ⟨gb110, 0, none⟩ = some (.int .i64 a0_0) := (blk_cell BK110.out 0).trans rfl; have hcz20_1 : w18.cell? ⟨gb110, 1, none⟩ = some (.int .i64 a0_1) := (blk_cell BK110.out 1).trans rfl; have hcz20_2 : w18.cell? ⟨gb110, 2, none⟩ = some (.int .i64 a0_2) := (blk_cell BK110.out 2).trans rfl; have hcz20_3 : w18.cell? ⟨gb110, 3, none⟩ = some (.int .i64 a0_3) := (blk_cell BK110.out 3).trans rfl; have hfz20_0 := blk_frozen BK110.out 0; have hfz20_1 := blk_frozen BK110.out 1; have hfz20_2 := blk_frozen BK110.out 2; have hfz20_3 := blk_frozen BK110.out 3; have hcz21_0 : w18.cell? ⟨gb111, 0, none⟩ = some (.int .i64 a1_0) := (blk_cell BK111.out 0).trans rfl; have hcz21_1 : w18.cell? ⟨gb111, 1, none⟩ = some (.int .i64 a1_1) := (blk_cell BK111.out 1).trans rfl; have hcz21_2 : w18.cell? ⟨gb111, 2, none⟩ = some (.int .i64 a1_2) := (blk_cell BK111.out 2).trans rfl; have hcz21_3 : w18.cell? ⟨gb111, 3, none⟩ = some (.int .i64 a1_3) := (blk_cell BK111.out 3).trans rfl; have hfz21_0 := blk_frozen BK111.out 0; have hfz21_1 := blk_frozen BK111.out 1; have hfz21_2 := blk_frozen BK111.out 2; have hfz21_3 := blk_frozen BK111.out 3))
        go_ret
        exact ⟨by first | rfl | (simp [errW_none, errW_some] <;> rfl) | (simp [*, errW_none, errW_some] <;> rfl), by repeat (first | (with_reducible first | exact HB.out | apply below_alloc | apply pw_below_drewN | apply below_drew1 | refine below_set ?_ GE110.out | refine below_set ?_ GE111.out) | exact HB.out)⟩
    · rw [if_neg c4] at H
      have c4b0 : (a0_1 == a1_1) = false := beq_eq_false_iff_ne.mpr c4
      have c4b1 : (a0_1 != a1_1) = true := bne_iff_ne.mpr c4
      obtain rfl := Option.some.inj H
      go_enter Try.func117, Try.ntmps117
      go_wp2_with (first | ((with_reducible refine gate_dst (N := 2) rfl ?_); refine box_event ?hg (N := 2) ?hd (cs := #[.int .i64 a0_0, .int .i64 a0_1, .int .i64 a0_2, .int .i64 a0_3]) (t := 84) ?hr ?_; (case hd => rfl); (case hg => rfl); (case hr => first | (go_simp; done) | (go_simp; rfl)); intro gb110 hg w22 hbox hb; have n0_ := Aside0.mk (below_step (by repeat (first | (with_reducible first | exact HB.out | apply below_alloc | apply pw_below_drewN | apply below_drew1) | exact HB.out)) hb); have n1_ := Aside0.mk (hbox); have n2_ := Aside0.mk ((by rw [hg]; exact (below_size (by repeat (first | (with_reducible first | exact HB.out | apply below_alloc | apply pw_below_drewN | apply below_drew1) | exact HB.out))) : w.heap.size ≤ gb110)); have n3_ := Aside0.mk ((by rw [hg]; exact (below_size (by repeat (first | (with_reducible first | exact HB.out | apply below_alloc | apply pw_below_drewN | apply below_drew1) | exact HB.out))) : w.heap.size ≤ gb110)); clear HB; have HB := n0_; have BK110 := n1_; have GW110 := n2_; have GE110 := n3_; clear n0_ n1_ n2_ n3_; clear hb hbox hg) | ((with_reducible refine gate_dst (N := 3) rfl ?_); refine box_event ?hg (N := 3) ?hd (cs := #[.int .i64 a1_0, .int .i64 a1_1, .int .i64 a1_2, .int .i64 a1_3]) (t := 84) ?hr ?_; (case hd => rfl); (case hg => rfl); (case hr => first | (go_simp; done) | (go_simp; rfl)); intro gb111 hg w23 hbox hb; have n0_ := Aside0.mk (blk_below (g := gb110) (o := .cells #[.int .i64 a0_0, .int .i64 a0_1, .int .i64 a0_2, .int .i64 a0_3] 84 (0, 0)) (by (with_reducible repeat (first | refine blk_drewN ?_ _ | refine blk_drew ?_ | refine blk_alloc ?_ _)); exact BK110.out) hb); have n1_ := Aside0.mk (below_step (by repeat (first | (with_reducible first | exact HB.out | apply below_alloc | apply pw_below_drewN | apply below_drew1 | refine below_set ?_ GE110.out) | exact HB.out)) hb); have n2_ := Aside0.mk (hbox); have n3_ := Aside0.mk ((by rw [hg]; exact (below_size (by repeat (first | (with_reducible first | exact HB.out | apply below_alloc | apply pw_below_drewN | apply below_drew1 | refine below_set ?_ GE110.out) | exact HB.out))) : w.heap.size ≤ gb111)); have n4_ := Aside0.mk ((by rw [hg]; exact (below_size (by repeat (first | (with_reducible first | exact HB.out | apply below_alloc | apply pw_below_drewN | apply below_drew1 | refine below_set ?_ GE110.out) | exact HB.out))) : w.heap.size ≤ gb111)); have n5_ := Aside0.mk ((by rw [hg]; exact Nat.ne_of_lt (blk_lt (g := gb110) (o := .cells #[.int .i64 a0_0, .int .i64 a0_1, .int .i64 a0_2, .int .i64 a0_3] 84 (0, 0)) (by (with_reducible repeat (first | refine blk_drewN ?_ _ | refine blk_drew ?_ | refine blk_alloc ?_ _)); exact BK110.out)) : gb110 ≠ gb111)); have n6_ := Aside0.mk ((by rw [hg]; exact Nat.ne_of_gt (blk_lt (g := gb110) (o := .cells #[.int .i64 a0_0, .int .i64 a0_1, .int .i64 a0_2, .int .i64 a0_3] 84 (0, 0)) (by (with_reducible repeat (first | refine blk_drewN ?_ _ | refine blk_drew ?_ | refine blk_alloc ?_ _)); exact BK110.out)) : gb111 ≠ gb110)); clear BK110; clear HB; have BK110 := n0_; have HB := n1_; have BK111 := n2_; have GW111 := n3_; have GE111 := n4_; have NB110_111 := n5_; have NB111_110 := n6_; clear n0_ n1_ n2_ n3_ n4_ n5_ n6_; clear hb hbox hg; have hnb24 := NB110_111.out; have hnc24 := NB111_110.out; have hcz25_0 : w23.cell? ⟨gb110, 0, none⟩ = some (.int .i64 a0_0) := (blk_cell BK110.out 0).trans rfl; have hcz25_1 : w23.cell? ⟨gb110, 1, none⟩ = some (.int .i64 a0_1) := (blk_cell BK110.out 1).trans rfl; have hcz25_2 : w23.cell? ⟨gb110, 2, none⟩ = some (.int .i64 a0_2) := (blk_cell BK110.out 2).trans rfl; have hcz25_3 : w23.cell? ⟨gb110, 3, none⟩ = some (.int .i64 a0_3) := (blk_cell BK110.out 3).trans rfl; have hfz25_0 := blk_frozen BK110.out 0; have hfz25_1 := blk_frozen BK110.out 1; have hfz25_2 := blk_frozen BK110.out 2; have hfz25_3 := blk_frozen BK110.out 3; have hcz26_0 : w23.cell? ⟨gb111, 0, none⟩ = some (.int .i64 a1_0) := (blk_cell BK111.out 0).trans rfl; have hcz26_1 : w23.cell? ⟨gb111, 1, none⟩ = some (.int .i64 a1_1) := (blk_cell BK111.out 1).trans rfl; have hcz26_2 : w23.cell? ⟨gb111, 2, none⟩ = some (.int .i64 a1_2) := (blk_cell BK111.out 2).trans rfl; have hcz26_3 : w23.cell? ⟨gb111, 3, none⟩ = some (.int .i64 a1_3) := (blk_cell BK111.out 3).trans rfl; have hfz26_0 := blk_frozen BK111.out 0; have hfz26_1 := blk_frozen BK111.out 1; have hfz26_2 := blk_frozen BK111.out 2; have hfz26_3 := blk_frozen BK111.out 3))
      go_ret
      exact ⟨by first | rfl | (simp [errW_none, errW_some] <;> rfl) | (simp [*, errW_none, errW_some] <;> rfl), by repeat (first | (with_reducible first | exact HB.out | apply below_alloc | apply pw_below_drewN | apply below_drew1 | refine below_set ?_ GE110.out | refine below_set ?_ GE111.out) | exact HB.out)⟩
  · rw [if_neg c3] at H
    have c3b0 : (a0_0 == a1_0) = false := beq_eq_false_iff_ne.mpr c3
    have c3b1 : (a0_0 != a1_0) = true := bne_iff_ne.mpr c3
    obtain rfl := Option.some.inj H
    go_enter Try.func117, Try.ntmps117
    go_wp2_with (first | ((with_reducible refine gate_dst (N := 2) rfl ?_); refine box_event ?hg (N := 2) ?hd (cs := #[.int .i64 a0_0, .int .i64 a0_1, .int .i64 a0_2, .int .i64 a0_3]) (t := 84) ?hr ?_; (case hd => rfl); (case hg => rfl); (case hr => first | (go_simp; done) | (go_simp; rfl)); intro gb110 hg w27 hbox hb; have n0_ := Aside0.mk (below_step (by repeat (first | (with_reducible first | exact HB.out | apply below_alloc | apply pw_below_drewN | apply below_drew1) | exact HB.out)) hb); have n1_ := Aside0.mk (hbox); have n2_ := Aside0.mk ((by rw [hg]; exact (below_size (by repeat (first | (with_reducible first | exact HB.out | apply below_alloc | apply pw_below_drewN | apply below_drew1) | exact HB.out))) : w.heap.size ≤ gb110)); have n3_ := Aside0.mk ((by rw [hg]; exact (below_size (by repeat (first | (with_reducible first | exact HB.out | apply below_alloc | apply pw_below_drewN | apply below_drew1) | exact HB.out))) : w.heap.size ≤ gb110)); clear HB; have HB := n0_; have BK110 := n1_; have GW110 := n2_; have GE110 := n3_; clear n0_ n1_ n2_ n3_; clear hb hbox hg) | ((with_reducible refine gate_dst (N := 3) rfl ?_); refine box_event ?hg (N := 3) ?hd (cs := #[.int .i64 a1_0, .int .i64 a1_1, .int .i64 a1_2, .int .i64 a1_3]) (t := 84) ?hr ?_; (case hd => rfl); (case hg => rfl); (case hr => first | (go_simp; done) | (go_simp; rfl)); intro gb111 hg w28 hbox hb; have n0_ := Aside0.mk (blk_below (g := gb110) (o := .cells #[.int .i64 a0_0, .int .i64 a0_1, .int .i64 a0_2, .int .i64 a0_3] 84 (0, 0)) (by (with_reducible repeat (first | refine blk_drewN ?_ _ | refine blk_drew ?_ | refine blk_alloc ?_ _)); exact BK110.out) hb); have n1_ := Aside0.mk (below_step (by repeat (first | (with_reducible first | exact HB.out | apply below_alloc | apply pw_below_drewN | apply below_drew1 | refine below_set ?_ GE110.out) | exact HB.out)) hb); have n2_ := Aside0.mk (hbox); have n3_ := Aside0.mk ((by rw [hg]; exact (below_size (by repeat (first | (with_reducible first | exact HB.out | apply below_alloc | apply pw_below_drewN | apply below_drew1 | refine below_set ?_ GE110.out) | exact HB.out))) : w.heap.size ≤ gb111)); have n4_ := Aside0.mk ((by rw [hg]; exact (below_size (by repeat (first | (with_reducible first | exact HB.out | apply below_alloc | apply pw_below_drewN | apply below_drew1 | refine below_set ?_ GE110.out) | exact HB.out))) : w.heap.size ≤ gb111)); have n5_ := Aside0.mk ((by rw [hg]; exact Nat.ne_of_lt (blk_lt (g := gb110) (o := .cells #[.int .i64 a0_0, .int .i64 a0_1, .int .i64 a0_2, .int .i64 a0_3] 84 (0, 0)) (by (with_reducible repeat (first | refine blk_drewN ?_ _ | refine blk_drew ?_ | refine blk_alloc ?_ _)); exact BK110.out)) : gb110 ≠ gb111)); have n6_ := Aside0.mk ((by rw [hg]; exact Nat.ne_of_gt (blk_lt (g := gb110) (o := .cells #[.int .i64 a0_0, .int .i64 a0_1, .int .i64 a0_2, .int .i64 a0_3] 84 (0, 0)) (by (with_reducible repeat (first | refine blk_drewN ?_ _ | refine blk_drew ?_ | refine blk_alloc ?_ _)); exact BK110.out)) : gb111 ≠ gb110)); clear BK110; clear HB; have BK110 := n0_; have HB := n1_; have BK111 := n2_; have GW111 := n3_; have GE111 := n4_; have NB110_111 := n5_; have NB111_110 := n6_; clear n0_ n1_ n2_ n3_ n4_ n5_ n6_; clear hb hbox hg; have hnb29 := NB110_111.out; have hnc29 := NB111_110.out; have hcz30_0 : w28.cell? ⟨gb110, 0, none⟩ = some (.int .i64 a0_0) := (blk_cell BK110.out 0).trans rfl; have hcz30_1 : w28.cell? ⟨gb110, 1, none⟩ = some (.int .i64 a0_1) := (blk_cell BK110.out 1).trans rfl; have hcz30_2 : w28.cell? ⟨gb110, 2, none⟩ = some (.int .i64 a0_2) := (blk_cell BK110.out 2).trans rfl; have hcz30_3 : w28.cell? ⟨gb110, 3, none⟩ = some (.int .i64 a0_3) := (blk_cell BK110.out 3).trans rfl; have hfz30_0 := blk_frozen BK110.out 0; have hfz30_1 := blk_frozen BK110.out 1; have hfz30_2 := blk_frozen BK110.out 2; have hfz30_3 := blk_frozen BK110.out 3; have hcz31_0 : w28.cell? ⟨gb111, 0, none⟩ = some (.int .i64 a1_0) := (blk_cell BK111.out 0).trans rfl; have hcz31_1 : w28.cell? ⟨gb111, 1, none⟩ = some (.int .i64 a1_1) := (blk_cell BK111.out 1).trans rfl; have hcz31_2 : w28.cell? ⟨gb111, 2, none⟩ = some (.int .i64 a1_2) := (blk_cell BK111.out 2).trans rfl; have hcz31_3 : w28.cell? ⟨gb111, 3, none⟩ = some (.int .i64 a1_3) := (blk_cell BK111.out 3).trans rfl; have hfz31_0 := blk_frozen BK111.out 0; have hfz31_1 := blk_frozen BK111.out 1; have hfz31_2 := blk_frozen BK111.out 2; have hfz31_3 := blk_frozen BK111.out 3))
    go_ret
    exact ⟨by first | rfl | (simp [errW_none, errW_some] <;> rfl) | (simp [*, errW_none, errW_some] <;> rfl), by repeat (first | (with_reducible first | exact HB.out | apply below_alloc | apply pw_below_drewN | apply below_drew1 | refine below_set ?_ GE110.out | refine below_set ?_ GE111.out) | exact HB.out)⟩

end Go.Proofs.Ytcpmlelejlmpdaa.QFnExactRangeReads
