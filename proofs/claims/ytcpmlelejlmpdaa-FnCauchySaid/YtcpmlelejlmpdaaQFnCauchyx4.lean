-- A text of this session, printed by a program of its own (wip/tools: xpatch.py, xprint.sh, mkq.py). No condition.
import Derived.Test.YtcpmlelejlmpdaaQFnCauchyx0
import Derived.Test.YtcpmlelejlmpdaaQFnCauchyx1
import Derived.Test.YtcpmlelejlmpdaaQFnCauchyx3
namespace Go.Proofs.Ytcpmlelejlmpdaa.QFnCauchy
open Go.RowKit Go.Proofs.YtcpmlelejlmpdaaW.PrintWords Go.Proofs.YtcpmlelejlmpdaaW.PrintLast Go.Proofs.YtcpmlelejlmpdaaW.PrintMore
attribute [local go_sem] max2_int min2_int max_two min_two max_three min_three max_four min_four   -- for this text's walks alone
set_option linter.unusedVariables false
set_option linter.unusedSimpArgs false

/-! ### impl_MatrixFault: function 74 -/
mutual
def impl_MatrixFault.j0 : Nat → Bool → Int → Int → List Int → Option (Int)
  | 0, _, _, _, _ => none
  | k + 1, x33, x136000, x136001, x136002 => if x33 = true then (some 1) else (impl_MatrixFault.l0 k x136002 (x136002.length : Int) 0)
def impl_MatrixFault.l0 : Nat → List Int → Int → Int → Option (Int)
  | 0, _, _, _ => none
  | k + 1, x35, x36, x37 => if x37 < x36 then (if 0 ≤ x37 then (if x37 < (x35.length : Int) then ((impl_isByte.f (rd x35 x37)).bind fun t137 => (if t137 = true then (impl_MatrixFault.l0 k x35 x36 (wrap64 (x37 + 1))) else (some 1))) else (none)) else (none)) else (some 0)
end
def impl_MatrixFault.f (k : Nat) (a0_0 : Int) (a0_1 : Int) (l0_2 : List Int) : Option (Int) := if a0_0 < 1 then (impl_MatrixFault.j0 k true a0_0 a0_1 l0_2) else (if a0_0 > 64 then (impl_MatrixFault.j0 k true a0_0 a0_1 l0_2) else (if a0_1 < 1 then (impl_MatrixFault.j0 k true a0_0 a0_1 l0_2) else (if a0_1 > 64 then (impl_MatrixFault.j0 k true a0_0 a0_1 l0_2) else (impl_MatrixFault.j0 k ((l0_2.length : Int) != (wrap64 (a0_0 * a0_1))) a0_0 a0_1 l0_2))))
theorem impl_MatrixFault.mono_l : ∀ k, (∀ y0 y1 y2 y3, LeO (impl_MatrixFault.j0 k y0 y1 y2 y3) (impl_MatrixFault.j0 (k + 1) y0 y1 y2 y3)) ∧ (∀ y0 y1 y2, LeO (impl_MatrixFault.l0 k y0 y1 y2) (impl_MatrixFault.l0 (k + 1) y0 y1 y2))
  | 0 => ⟨fun _ _ _ _ r h => by simp [impl_MatrixFault.j0] at h, fun _ _ _ r h => by simp [impl_MatrixFault.l0] at h⟩
  | k + 1 => by
    obtain ⟨ih0, ih1⟩ := impl_MatrixFault.mono_l k
    refine ⟨?_, ?_⟩
    · intro y0 y1 y2 y3
      unfold impl_MatrixFault.j0
      repeat' first
      | (with_reducible exact ih0 _ _ _ _)
      | (with_reducible exact ih1 _ _ _)
      | (with_reducible exact LeO.refl _)
      | (with_reducible exact LeO.none _)
      | (with_reducible refine LeO.ite ?_ ?_)
      | (with_reducible refine LeO.bind ?_ (fun _ => ?_))
      | exact ih0 _ _ _ _
      | exact ih1 _ _ _
      | exact LeO.none _
      | refine LeO.ite ?_ ?_
      | refine LeO.bind ?_ (fun _ => ?_)
    · intro y0 y1 y2
      unfold impl_MatrixFault.l0
      repeat' first
      | (with_reducible exact ih0 _ _ _ _)
      | (with_reducible exact ih1 _ _ _)
      | (with_reducible exact LeO.refl _)
      | (with_reducible exact LeO.none _)
      | (with_reducible refine LeO.ite ?_ ?_)
      | (with_reducible refine LeO.bind ?_ (fun _ => ?_))
      | exact ih0 _ _ _ _
      | exact ih1 _ _ _
      | exact LeO.none _
      | refine LeO.ite ?_ ?_
      | refine LeO.bind ?_ (fun _ => ?_)
theorem impl_MatrixFault.mono : ∀ a0 a1 a2 k, LeO (impl_MatrixFault.f k a0 a1 a2) (impl_MatrixFault.f (k + 1) a0 a1 a2) := by
  intro a0 a1 a2 k
  obtain ⟨ih0, ih1⟩ := impl_MatrixFault.mono_l k
  unfold impl_MatrixFault.f
  repeat' first
      | (with_reducible exact ih0 _ _ _ _)
      | (with_reducible exact ih1 _ _ _)
      | (with_reducible exact LeO.refl _)
      | (with_reducible exact LeO.none _)
      | (with_reducible refine LeO.ite ?_ ?_)
      | (with_reducible refine LeO.bind ?_ (fun _ => ?_))
      | exact ih0 _ _ _ _
      | exact ih1 _ _ _
      | exact LeO.none _
      | refine LeO.ite ?_ ?_
      | refine LeO.bind ?_ (fun _ => ?_)
set_option maxHeartbeats 8000000 in
set_option maxRecDepth 100000 in
theorem impl_MatrixFault.calls (k : Nat) (a0_0 : Int) (a0_1 : Int) (A0_2 : Option Addr) (c0_2 : Nat) (l0_2 : List Int) (r : Int) (w : World) (hr0_2 : Kd.C (Kd.int .i64) w A0_2 l0_2.length l0_2) (hc0_2 : l0_2.length ≤ c0_2) (h : impl_MatrixFault.f k a0_0 a0_1 l0_2 = some r) :
    Calls Try.prog 74 #[.agg #[.int .i64 a0_0, .int .i64 a0_1, .slice A0_2 l0_2.length c0_2]] w fun e w' => e = .returned (.int .i64 r) ∧ Below w.heap.size w w' := by
  have hu34 := Try.underlying34
  have HR0_2 := Aside0.mk hr0_2
  have HC0_2 := Aside0.mk hc0_2
  clear hr0_2 hc0_2
  have HB := Aside0.mk (Below.refl w.heap.size w)
  have H : (if a0_0 < 1 then (impl_MatrixFault.j0 k true a0_0 a0_1 l0_2) else (if a0_0 > 64 then (impl_MatrixFault.j0 k true a0_0 a0_1 l0_2) else (if a0_1 < 1 then (impl_MatrixFault.j0 k true a0_0 a0_1 l0_2) else (if a0_1 > 64 then (impl_MatrixFault.j0 k true a0_0 a0_1 l0_2) else (impl_MatrixFault.j0 k ((l0_2.length : Int) != (wrap64 (a0_0 * a0_1))) a0_0 a0_1 l0_2))))) = some r := h
  clear h
  have HC2 := Aside0.mk H
  clear H
  go_enter Try.func74, Try.ntmps74
  go_upto_region 1 with (first | ((with_reducible refine gate_dst (N := 1) rfl ?_); (try (refine gate_guard (by rfl) ?_; dsimp only)); refine box_event ?hg (N := 1) ?hd (cs := #[.int .i64 a0_0, .int .i64 a0_1, .slice A0_2 l0_2.length c0_2]) (t := 34) ?hr ?_; (case hd => rfl); (case hg => rfl); (case hr => first | (go_simp; done) | (go_simp; rfl)); intro gb135 hg w3 hbox hb; have n0_ := Aside0.mk (below_step (by repeat (first | (with_reducible first | exact HB.out | apply below_alloc | apply pw_below_drewN | apply below_drew1) | exact HB.out)) hb); have n1_ := Aside0.mk (hbox); have n2_ := Aside0.mk ((by rw [hg]; exact (below_size (by repeat (first | (with_reducible first | exact HB.out | apply below_alloc | apply pw_below_drewN | apply below_drew1) | exact HB.out))) : w.heap.size ≤ gb135)); have n3_ := Aside0.mk ((by rw [hg]; exact (below_size (by repeat (first | (with_reducible first | exact HB.out | apply below_alloc | apply pw_below_drewN | apply below_drew1) | exact HB.out))) : w.heap.size ≤ gb135)); clear HB; have HB := n0_; have BK135 := n1_; have GW135 := n2_; have GE135 := n3_; clear n0_ n1_ n2_ n3_; clear hb hbox hg))
  (try simp only [Act.put, List.setIfInBounds_toArray, List.set_cons_zero, List.set_cons_succ])
  go_cut [33] (fun v33 wc => ∃ (kq : Nat) (x33_1 : Bool), v33 = .bool x33_1 ∧ Aside0 (impl_MatrixFault.j0 kq x33_1 a0_0 a0_1 l0_2 = some r) ∧ Aside0 (kq ≤ k) ∧ Aside0 (wc.heap[gb135]? = some (.cells #[.int .i64 a0_0, .int .i64 a0_1, (.slice A0_2 l0_2.length c0_2)] 34 (0, 0))) ∧ Aside0 (Below w.heap.size w wc))
  case first =>
    have H := HC2.out
    clear HC2
    by_cases c4 : a0_0 < 1
    · rw [if_pos c4] at H
      have c4b0 : decide (a0_0 < 1) = true := decide_eq_true c4
      clear c4
      (first | rw [c4b0] | (simp only [i64_w, i32_w]; rw [c4b0]) | skip)
      have H' := Aside0.mk H
      clear H
      have hcz5_0 : w3.cell? ⟨gb135, 0, none⟩ = some (.int .i64 a0_0) := (blk_cell BK135.out 0).trans rfl
      have hcz5_1 : w3.cell? ⟨gb135, 1, none⟩ = some (.int .i64 a0_1) := (blk_cell BK135.out 1).trans rfl
      have hcz5_2 : w3.cell? ⟨gb135, 2, none⟩ = some (.slice A0_2 l0_2.length c0_2) := (blk_cell BK135.out 2).trans rfl
      have hfz5_0 := blk_frozen BK135.out 0
      have hfz5_1 := blk_frozen BK135.out 1
      have hfz5_2 := blk_frozen BK135.out 2
      go_wp2
      go_meet
      case rel => exact ⟨_, (true), (by first | rfl | (simp; done) | (simp [*]; done)), H', ⟨by first | omega | exact Nat.le_refl _⟩, ⟨by (with_reducible repeat (first | refine blk_drewN ?_ _ | refine blk_drew ?_ | refine blk_alloc ?_ _)); exact BK135.out⟩, ⟨by repeat (first | (with_reducible first | exact HB.out | apply below_alloc | apply pw_below_drewN | apply below_drew1 | refine below_set ?_ GE135.out) | exact HB.out)⟩⟩
    · rw [if_neg c4] at H
      have c4b0 : decide (a0_0 < 1) = false := decide_eq_false c4
      clear c4
      (first | rw [c4b0] | (simp only [i64_w, i32_w]; rw [c4b0]) | skip)
      by_cases c6 : a0_0 > 64
      · rw [if_pos c6] at H
        have c6b0 : decide (64 < a0_0) = true := decide_eq_true c6
        clear c6
        have H' := Aside0.mk H
        clear H
        have hcz7_0 : w3.cell? ⟨gb135, 0, none⟩ = some (.int .i64 a0_0) := (blk_cell BK135.out 0).trans rfl
        have hcz7_1 : w3.cell? ⟨gb135, 1, none⟩ = some (.int .i64 a0_1) := (blk_cell BK135.out 1).trans rfl
        have hcz7_2 : w3.cell? ⟨gb135, 2, none⟩ = some (.slice A0_2 l0_2.length c0_2) := (blk_cell BK135.out 2).trans rfl
        have hfz7_0 := blk_frozen BK135.out 0
        have hfz7_1 := blk_frozen BK135.out 1
        have hfz7_2 := blk_frozen BK135.out 2
        go_wp2
        go_meet
        case rel => exact ⟨_, (true), (by first | rfl | (simp; done) | (simp [*]; done)), H', ⟨by first | omega | exact Nat.le_refl _⟩, ⟨by (with_reducible repeat (first | refine blk_drewN ?_ _ | refine blk_drew ?_ | refine blk_alloc ?_ _)); exact BK135.out⟩, ⟨by repeat (first | (with_reducible first | exact HB.out | apply below_alloc | apply pw_below_drewN | apply below_drew1 | refine below_set ?_ GE135.out) | exact HB.out)⟩⟩
      · rw [if_neg c6] at H
        have c6b0 : decide (64 < a0_0) = false := decide_eq_false c6
        clear c6
        by_cases c8 : a0_1 < 1
        · rw [if_pos c8] at H
          have c8b0 : decide (a0_1 < 1) = true := decide_eq_true c8
          clear c8
          have H' := Aside0.mk H
          clear H
          have hcz9_0 : w3.cell? ⟨gb135, 0, none⟩ = some (.int .i64 a0_0) := (blk_cell BK135.out 0).trans rfl
          have hcz9_1 : w3.cell? ⟨gb135, 1, none⟩ = some (.int .i64 a0_1) := (blk_cell BK135.out 1).trans rfl
          have hcz9_2 : w3.cell? ⟨gb135, 2, none⟩ = some (.slice A0_2 l0_2.length c0_2) := (blk_cell BK135.out 2).trans rfl
          have hfz9_0 := blk_frozen BK135.out 0
          have hfz9_1 := blk_frozen BK135.out 1
          have hfz9_2 := blk_frozen BK135.out 2
          go_wp2
          go_meet
          case rel => exact ⟨_, (true), (by first | rfl | (simp; done) | (simp [*]; done)), H', ⟨by first | omega | exact Nat.le_refl _⟩, ⟨by (with_reducible repeat (first | refine blk_drewN ?_ _ | refine blk_drew ?_ | refine blk_alloc ?_ _)); exact BK135.out⟩, ⟨by repeat (first | (with_reducible first | exact HB.out | apply below_alloc | apply pw_below_drewN | apply below_drew1 | refine below_set ?_ GE135.out) | exact HB.out)⟩⟩
        · rw [if_neg c8] at H
          have c8b0 : decide (a0_1 < 1) = false := decide_eq_false c8
          clear c8
          by_cases c10 : a0_1 > 64
          · rw [if_pos c10] at H
            have c10b0 : decide (64 < a0_1) = true := decide_eq_true c10
            clear c10
            have H' := Aside0.mk H
            clear H
            have hcz11_0 : w3.cell? ⟨gb135, 0, none⟩ = some (.int .i64 a0_0) := (blk_cell BK135.out 0).trans rfl
            have hcz11_1 : w3.cell? ⟨gb135, 1, none⟩ = some (.int .i64 a0_1) := (blk_cell BK135.out 1).trans rfl
            have hcz11_2 : w3.cell? ⟨gb135, 2, none⟩ = some (.slice A0_2 l0_2.length c0_2) := (blk_cell BK135.out 2).trans rfl
            have hfz11_0 := blk_frozen BK135.out 0
            have hfz11_1 := blk_frozen BK135.out 1
            have hfz11_2 := blk_frozen BK135.out 2
            go_wp2
            go_meet
            case rel => exact ⟨_, (true), (by first | rfl | (simp; done) | (simp [*]; done)), H', ⟨by first | omega | exact Nat.le_refl _⟩, ⟨by (with_reducible repeat (first | refine blk_drewN ?_ _ | refine blk_drew ?_ | refine blk_alloc ?_ _)); exact BK135.out⟩, ⟨by repeat (first | (with_reducible first | exact HB.out | apply below_alloc | apply pw_below_drewN | apply below_drew1 | refine below_set ?_ GE135.out) | exact HB.out)⟩⟩
          · rw [if_neg c10] at H
            have c10b0 : decide (64 < a0_1) = false := decide_eq_false c10
            clear c10
            have H' := Aside0.mk H
            clear H
            have hcz12_0 : w3.cell? ⟨gb135, 0, none⟩ = some (.int .i64 a0_0) := (blk_cell BK135.out 0).trans rfl
            have hcz12_1 : w3.cell? ⟨gb135, 1, none⟩ = some (.int .i64 a0_1) := (blk_cell BK135.out 1).trans rfl
            have hcz12_2 : w3.cell? ⟨gb135, 2, none⟩ = some (.slice A0_2 l0_2.length c0_2) := (blk_cell BK135.out 2).trans rfl
            have hfz12_0 := blk_frozen BK135.out 0
            have hfz12_1 := blk_frozen BK135.out 1
            have hfz12_2 := blk_frozen BK135.out 2
            go_wp2
            go_meet
            case rel => exact ⟨_, (((l0_2.length : Int) != (wrap64 (a0_0 * a0_1)))), (by first | rfl | (simp; done) | (simp [*]; done)), H', ⟨by first | omega | exact Nat.le_refl _⟩, ⟨by (with_reducible repeat (first | refine blk_drewN ?_ _ | refine blk_drew ?_ | refine blk_alloc ?_ _)); exact BK135.out⟩, ⟨by repeat (first | (with_reducible first | exact HB.out | apply below_alloc | apply pw_below_drewN | apply below_drew1 | refine below_set ?_ GE135.out) | exact HB.out)⟩⟩
  case rest =>
    clear HC2
    try clear c1
    try clear p2
    try clear c4
    try clear c4b0
    try clear c6
    try clear c6b0
    try clear p6
    try clear c7
    try clear c8
    try clear c8b0
    try clear c10
    try clear c10b0
    try clear hcz11_0
    try clear hcz11_1
    try clear hcz11_2
    try clear hcz12_0
    try clear hcz12_1
    try clear hcz12_2
    try clear hcz5_0
    try clear hcz5_1
    try clear hcz5_2
    try clear hcz7_0
    try clear hcz7_1
    try clear hcz7_2
    try clear hcz9_0
    try clear hcz9_1
    try clear hcz9_2
    try clear hfz11_0
    try clear hfz11_1
    try clear hfz11_2
    try clear hfz12_0
    try clear hfz12_1
    try clear hfz12_2
    try clear hfz5_0
    try clear hfz5_1
    try clear hfz5_2
    try clear hfz7_0
    try clear hfz7_1
    try clear hfz7_2
    try clear hfz9_0
    try clear hfz9_1
    try clear hfz9_2
    obtain ⟨kq, x33_1, rfl, HA, HJ1, BK135, HB⟩ := hcut
    cases kq with
    | zero => exact absurd HA.out (by simp [impl_MatrixFault.j0])
    | succ kj1 =>
      have H := HA.out
      clear HA
      simp only [impl_MatrixFault.j0] at H
      by_cases c13 : x33_1 = true
      · subst c13
        have H1 : (some 1) = some r := by rw [if_pos rfl] at H; exact H
        clear H
        have H := H1
        clear H1
        obtain rfl := Option.some.inj H
        go_wp2
        go_ret
        exact ⟨by first | rfl | (simp [errW_none, errW_some] <;> rfl) | (simp [*, errW_none, errW_some] <;> rfl), by repeat (first | (with_reducible first | exact HB.out | apply below_alloc | apply pw_below_drewN | apply below_drew1 | refine below_set ?_ GE135.out) | exact HB.out)⟩
      · replace c13 := Bool.eq_false_iff.mpr c13
        subst c13
        have H1 : (impl_MatrixFault.l0 kj1 l0_2 (l0_2.length : Int) 0) = some r := by rw [if_neg (show ¬ (false = true) by decide)] at H; exact H
        clear H
        have H := H1
        clear H1
        have H' := Aside0.mk H
        clear H
        have hcz14_0 : wc.cell? ⟨gb135, 0, none⟩ = some (.int .i64 a0_0) := (blk_cell BK135.out 0).trans rfl
        have hcz14_1 : wc.cell? ⟨gb135, 1, none⟩ = some (.int .i64 a0_1) := (blk_cell BK135.out 1).trans rfl
        have hcz14_2 : wc.cell? ⟨gb135, 2, none⟩ = some (.slice A0_2 l0_2.length c0_2) := (blk_cell BK135.out 2).trans rfl
        have hfz14_0 := blk_frozen BK135.out 0
        have hfz14_1 := blk_frozen BK135.out 1
        have hfz14_2 := blk_frozen BK135.out 2
        go_wp2
        go_loopg [37] kj1 (fun kq v37 w' => ∃ (x37_2 : Int), v37 = .int .i64 x37_2 ∧ Aside0 (impl_MatrixFault.l0 kq l0_2 (l0_2.length : Int) x37_2 = some r) ∧ Aside0 (kq ≤ kj1) ∧ Aside0 (w'.heap[gb135]? = some (.cells #[.int .i64 a0_0, .int .i64 a0_1, (.slice A0_2 l0_2.length c0_2)] 34 (0, 0))) ∧ Aside0 (Below w.heap.size w w'))
        case atStart => exact ⟨(0), (by first | rfl | (simp; done) | (simp [*]; done)), H', ⟨Nat.le_refl _⟩, ⟨by (with_reducible repeat (first | refine blk_drewN ?_ _ | refine blk_drew ?_ | refine blk_alloc ?_ _)); exact BK135.out⟩, ⟨by repeat (first | (with_reducible first | exact HB.out | apply below_alloc | apply pw_below_drewN | apply below_drew1 | refine below_set ?_ GE135.out) | exact HB.out)⟩⟩
        case round =>
          clear H'
          try clear c1
          try clear p2
          try clear c4
          try clear c4b0
          try clear c6
          try clear c6b0
          try clear p6
          try clear c7
          try clear c8
          try clear c8b0
          try clear c10
          try clear c10b0
          try clear c13
          try clear hcz11_0
          try clear hcz11_1
          try clear hcz11_2
          try clear hcz12_0
          try clear hcz12_1
          try clear hcz12_2
          try clear hcz14_0
          try clear hcz14_1
          try clear hcz14_2
          try clear hcz5_0
          try clear hcz5_1
          try clear hcz5_2
          try clear hcz7_0
          try clear hcz7_1
          try clear hcz7_2
          try clear hcz9_0
          try clear hcz9_1
          try clear hcz9_2
          try clear hfz11_0
          try clear hfz11_1
          try clear hfz11_2
          try clear hfz12_0
          try clear hfz12_1
          try clear hfz12_2
          try clear hfz14_0
          try clear hfz14_1
          try clear hfz14_2
          try clear hfz5_0
          try clear hfz5_1
          try clear hfz5_2
          try clear hfz7_0
          try clear hfz7_1
          try clear hfz7_2
          try clear hfz9_0
          try clear hfz9_1
          try clear hfz9_2
          try clear p2
          try clear p6
          obtain ⟨x37_2, rfl, HA, HK2, BK135, HB⟩ := hrel
          cases gk with
          | zero => exact absurd HA.out (by simp [impl_MatrixFault.l0])
          | succ k2 =>
            have H := HA.out
            clear HA
            simp only [impl_MatrixFault.l0] at H
            by_cases c15 : x37_2 < (l0_2.length : Int)
            · rw [if_pos c15] at H
              have c15b0 : decide (x37_2 < (l0_2.length : Int)) = true := decide_eq_true c15
              clear c15
              by_cases c16 : 0 ≤ x37_2
              · rw [if_pos c16] at H
                have c16b0 : decide (0 ≤ x37_2) = true := decide_eq_true c16
                clear c16
                by_cases c17 : x37_2 < (l0_2.length : Int)
                · rw [if_pos c17] at H
                  have c17b0 : decide (x37_2 < (l0_2.length : Int)) = true := decide_eq_true c17
                  clear c17
                  replace H := Option.bind_eq_some_iff.mp H
                  obtain ⟨t137, A180, H⟩ := H
                  replace H : (if t137 = true then (impl_MatrixFault.l0 k2 l0_2 (l0_2.length : Int) (wrap64 (x37_2 + 1))) else (some 1)) = some r := H
                  have A18 := Aside0.mk A180
                  clear A180
                  by_cases c19 : t137 = true
                  · subst c19
                    have H1 : (impl_MatrixFault.l0 k2 l0_2 (l0_2.length : Int) (wrap64 (x37_2 + 1))) = some r := by rw [if_pos rfl] at H; exact H
                    clear H
                    have H := H1
                    clear H1
                    have H' := Aside0.mk H
                    clear H
                    have p136 : 0 ≤ (x37_2 : Int) := of_decide_eq_true (by first | (with_reducible assumption) | assumption)
                    have q136 : x37_2 < (l0_2.length : Int) := of_decide_eq_true (by first | (with_reducible assumption) | assumption)
                    obtain ⟨ad136, e136, hx136_0⟩ := Kd.at_int HR0_2.out x37_2 p136 q136
                    cases e136
                    replace hx136_0 := (HB.out.cell (World.block_lt_of_cell? w _ hx136_0)).trans hx136_0
                    replace p136 := eq_true p136
                    replace q136 := eq_true q136
                    go_wp2_with (first | ((with_reducible refine gate_callee (f := 110) rfl ?_); refine goesL_ (some 42) rfl rfl Try.func110 (by kernel_rfl) rfl #[.int .i64 (rd l0_2 x37_2)] rfl (by (try simp only [List.map_toArray, List.map_cons, List.map_nil]); first | done | rfl | (simp only [List.length_drop, List.length_take]; rfl)) ?_; (with_reducible refine (impl_isByte.calls (rd l0_2 x37_2) true _ A18.out).mono ?_); rintro e w' ⟨rfl, ⟨nd, rfl⟩⟩; refine ⟨_, rfl, ?_⟩))
                    go_roundg k2
                    case measure => have := HJ1.out; have := HK2.out; omega
                    case rel => exact ⟨(wrap64 (x37_2 + 1)), (by first | rfl | (simp; done) | (simp [*]; done)), H', ⟨by have := HJ1.out; have := HK2.out; omega⟩, ⟨by (with_reducible repeat (first | refine blk_drewN ?_ _ | refine blk_drew ?_ | refine blk_alloc ?_ _)); exact BK135.out⟩, ⟨by repeat (first | (with_reducible first | exact HB.out | apply below_alloc | apply pw_below_drewN | apply below_drew1 | refine below_set ?_ GE135.out) | exact HB.out)⟩⟩
                  · replace c19 := Bool.eq_false_iff.mpr c19
                    subst c19
                    have H1 : (some 1) = some r := by rw [if_neg (show ¬ (false = true) by decide)] at H; exact H
                    clear H
                    have H := H1
                    clear H1
                    obtain rfl := Option.some.inj H
                    have p136 : 0 ≤ (x37_2 : Int) := of_decide_eq_true (by first | (with_reducible assumption) | assumption)
                    have q136 : x37_2 < (l0_2.length : Int) := of_decide_eq_true (by first | (with_reducible assumption) | assumption)
                    obtain ⟨ad136, e136, hx136_0⟩ := Kd.at_int HR0_2.out x37_2 p136 q136
                    cases e136
                    replace hx136_0 := (HB.out.cell (World.block_lt_of_cell? w _ hx136_0)).trans hx136_0
                    replace p136 := eq_true p136
                    replace q136 := eq_true q136
                    go_wp2_with (first | ((with_reducible refine gate_callee (f := 110) rfl ?_); refine goesL_ (some 42) rfl rfl Try.func110 (by kernel_rfl) rfl #[.int .i64 (rd l0_2 x37_2)] rfl (by (try simp only [List.map_toArray, List.map_cons, List.map_nil]); first | done | rfl | (simp only [List.length_drop, List.length_take]; rfl)) ?_; (with_reducible refine (impl_isByte.calls (rd l0_2 x37_2) false _ A18.out).mono ?_); rintro e w' ⟨rfl, ⟨nd, rfl⟩⟩; refine ⟨_, rfl, ?_⟩))
                    go_ret
                    exact ⟨by first | rfl | (simp [errW_none, errW_some] <;> rfl) | (simp [*, errW_none, errW_some] <;> rfl), by repeat (first | (with_reducible first | exact HB.out | apply below_alloc | apply pw_below_drewN | apply below_drew1 | refine below_set ?_ GE135.out) | exact HB.out)⟩
                · exact absurd (of_decide_eq_true c15b0) c17
              · rw [if_neg c16] at H
                exact absurd H (by simp)
            · rw [if_neg c15] at H
              have c15b0 : decide (x37_2 < (l0_2.length : Int)) = false := decide_eq_false c15
              clear c15
              obtain rfl := Option.some.inj H
              go_wp2
              go_ret
              exact ⟨by first | rfl | (simp [errW_none, errW_some] <;> rfl) | (simp [*, errW_none, errW_some] <;> rfl), by repeat (first | (with_reducible first | exact HB.out | apply below_alloc | apply pw_below_drewN | apply below_drew1 | refine below_set ?_ GE135.out) | exact HB.out)⟩

/-! ### impl_newGrid: function 77 -/
def rowV (A c cA i : Nat) : Value := .slice (some ⟨A, i * c, none⟩) c (cA - i * c)
/-- A grid in memory: its rows are cuts of one array. -/
structure GridIn (W : World) (g R A r c cA : Nat) (gT : Nat) (L : List Int) : Prop where
  hd : ∃ cR, W.cell? ⟨g, 0, none⟩ = some (.slice (some ⟨R, 0, none⟩) r cR)
  fld : W.cell? ⟨g, 1, none⟩ = some (.pointer (some ⟨gT, 0, none⟩))
  rows : ∀ i, i < r → W.cell? ⟨R, i, none⟩ = some (rowV A c cA i)
  len : L.length = r * c
  cell : ∀ k, k < r * c → W.cell? ⟨A, k, none⟩ = some (.int .u8 (rd L (k : Int)))
  free : ∀ k, k < r * c → W.frozen? ⟨A, k, none⟩ = false
  gR : g ≠ R
  gA : g ≠ A
  RA : R ≠ A
  Alt : A < W.heap.size
  cap : r * c ≤ cA
  rfr : ∀ i, i < r → W.frozen? ⟨R, i, none⟩ = false
  Rlt : R < W.heap.size
theorem GridIn.below {W W' : World} {g R A r c cA : Nat} {gT : Nat} {L : List Int} (h : GridIn W g R A r c cA gT L) (hb : Below W.heap.size W W') : GridIn W' g R A r c cA gT L where
  hd := by obtain ⟨cR, h1⟩ := h.hd; exact ⟨cR, pw_cell_below hb h1⟩
  fld := pw_cell_below hb h.fld
  rows := fun i hi => pw_cell_below hb (h.rows i hi)
  len := h.len
  cell := fun k hk => pw_cell_below hb (h.cell k hk)
  free := fun k hk => (hb.frozen (p := ⟨A, k, none⟩) h.Alt).trans (h.free k hk)
  gR := h.gR
  gA := h.gA
  RA := h.RA
  Alt := Nat.lt_of_lt_of_le h.Alt hb.size
  cap := h.cap
  rfr := fun i hi => (hb.frozen (p := ⟨R, i, none⟩) h.Rlt).trans (h.rfr i hi)
  Rlt := Nat.lt_of_lt_of_le h.Rlt hb.size
theorem rd_set_same (L : List Int) (k : Nat) (v : Int) (h : k < L.length) : rd (L.set k v) (k : Int) = v := by
  unfold rd
  rw [Int.toNat_natCast, List.getD_eq_getElem?_getD, List.getElem?_set, if_pos rfl, if_pos h]; rfl
theorem rd_set_other (L : List Int) (k j : Nat) (v : Int) (h : k ≠ j) : rd (L.set k v) (j : Int) = rd L (j : Int) := by
  unfold rd
  rw [Int.toNat_natCast, List.getD_eq_getElem?_getD, List.getD_eq_getElem?_getD, List.getElem?_set, if_neg h]
theorem GridIn.put {W : World} {g R A r c cA : Nat} {gT : Nat} {L : List Int} (h : GridIn W g R A r c cA gT L) (k : Nat) (hk : k < r * c) (v : Int) : GridIn (W.setCell ⟨A, k, none⟩ (.int .u8 v)) g R A r c cA gT (L.set k v) where
  hd := by obtain ⟨cR, h1⟩ := h.hd; exact ⟨cR, (World.cell?_setCell_far _ _ _ _ (fun e => h.gA e.symm)).trans h1⟩
  fld := (World.cell?_setCell_far _ _ _ _ (fun e => h.gA e.symm)).trans h.fld
  rows := fun i hi => (World.cell?_setCell_far _ _ _ _ (fun e => h.RA e.symm)).trans (h.rows i hi)
  len := by rw [List.length_set]; exact h.len
  cell := fun j hj => by
    by_cases e : k = j
    · subst e
      rw [World.cell?_setCell_same' _ _ _ (by rw [h.cell k hk]; rfl), rd_set_same _ _ _ (by rw [h.len]; exact hk)]
    · rw [World.cell?_setCell_other _ _ _ _ (fun x => e (by injection x)), rd_set_other _ _ _ _ e]
      exact h.cell j hj
  free := fun j hj => by rw [World.frozen?_setCell]; exact h.free j hj
  gR := h.gR
  gA := h.gA
  RA := h.RA
  Alt := by rw [World.size_setCell]; exact h.Alt
  cap := h.cap
  rfr := fun i hi => by rw [World.frozen?_setCell]; exact h.rfr i hi
  Rlt := by rw [World.size_setCell]; exact h.Rlt
/-- A whole struct written. -/
theorem grid_put {W : World} {oi : Oper} {a : Act} (ty : TypeId) (x y : Operand) (ho : oi.op = .store ty x y) (g : Nat) (old cells : Array Value) (hx : a.eval x = .pointer (some ⟨g, 0, none⟩)) (hy : a.eval y = .agg cells)
    (hb : W.heap[g]? = some (.cells old ty (0, 0))) (hi : (Try.prog.info? ty).map (·.size) = some cells.size) (hs : old.size = cells.size) (h1 : cells.all (·.oneCell') = true) : (execOp a.eval oi).run Try.prog W = .ok .skip (W.setRow g cells) := by
  unfold execOp
  simp only [ho, hx, hy, Instr.storeAt, Instr.sureAddr, Sem.run_bind, Sem.run_pure, Result.andThen_ok, run_storeVar_row W g ty ty old cells hb hi hs h1]
theorem grid_row {w W : World} (h : Below w.heap.size w W) {g : Nat} (hg : w.heap.size ≤ g) (cs : Array Value) : Below w.heap.size w (W.setRow g cs) :=
  ⟨h.os, h.tape, h.output, by rw [setRow_size]; exact h.size, fun i hi => (setRow_other W g i cs (by omega)).trans (h.block i hi)⟩
theorem ng_own {w1 : World} {K gO cO e base : Nat} {inn : List Value} (h : w1.ownsRow base e 1 (.slice (some ⟨gO, 0, none⟩) K cO) K inn) : ∃ cs : Array Value, w1.heap[gO]? = some (.cells cs e (0, 0)) := by
  rcases h.2 with ⟨h, _⟩ | ⟨g, cap, cur, he, hb, hh, h1, h2, h3, h4⟩
  · simp at h
  · simp only [Value.slice.injEq, Option.some.injEq, Addr.mk.injEq, and_true, true_and] at he
    obtain ⟨rfl, rfl⟩ := he
    exact ⟨_, hh⟩
def rowVs (A c cA n : Nat) : List (List Value) := (List.range n).map fun i => [rowV A c cA i]
theorem rowVs_len (A c cA n : Nat) : (rowVs A c cA n).length = n := by simp [rowVs]
theorem rowVs_succ (A c cA n : Nat) : rowVs A c cA n ++ [[rowV A c cA n]] = rowVs A c cA (n + 1) := by unfold rowVs; rw [List.range_succ, List.map_append]; rfl
theorem ng_w0 {i : Nat} (h : i ≤ 64) : IntKind.i64.wrap ((i : Int) + 1) = ((i + 1 : Nat) : Int) := by rw [IntKind.wrap_i64]; omega
theorem ng_w1 {i c p : Nat} (h : i * c = p) (hp : p ≤ 4096) : IntKind.i64.wrap ((i : Int) * (c : Int)) = (p : Int) := by rw [← Int.natCast_mul, h, IntKind.wrap_i64]; omega
theorem ng_w2 {i c p q : Nat} (h : i * c = p) (hq : p + c = q) (hp : q ≤ 4096) : wrap64 (((i : Int) + 1) * (c : Int)) = (q : Int) := by
  rw [show ((i : Int) + 1) = ((i + 1 : Nat) : Int) by omega, ← Int.natCast_mul, Nat.succ_mul, h]; unfold wrap64; omega
theorem mul_lt {i r c : Nat} (h : i < r) (hc : 1 ≤ c) : i * c < r * c ∧ i * c + c ≤ r * c := by
  have := Nat.mul_le_mul_right c h
  rw [Nat.succ_mul] at this
  omega

set_option maxHeartbeats 8000000 in
set_option maxRecDepth 100000 in
theorem impl_newGrid.callsN (r c : Nat) (gT : Nat) (hr1 : 1 ≤ r) (hc1 : 1 ≤ c) (hr : r ≤ 64) (hc : c ≤ 64) (w : World) :
    Calls Try.prog 77 #[.pointer (some ⟨gT, 0, none⟩), .int .i64 (r : Int), .int .i64 (c : Int)] w fun e w' => ∃ g R A cA, e = .returned (.pointer (some ⟨g, 0, none⟩)) ∧ w.heap.size ≤ g ∧ w.heap.size ≤ R ∧ w.heap.size ≤ A ∧ GridIn w' g R A r c cA gT (List.replicate (r * c) 0) ∧ Below w.heap.size w w' := by
  have hrc : r * c ≤ 64 * 64 := Nat.mul_le_mul hr hc
  have hrc1 : 1 * 1 ≤ r * c := Nat.mul_le_mul hr1 hc1
  obtain ⟨n, hn⟩ : ∃ n, r * c = n := ⟨_, rfl⟩
  have hwn : (r : Int) * (c : Int) = (n : Int) := by rw [← Int.natCast_mul, hn]
  rw [hn] at hrc hrc1
  have HN := Aside0.mk hn
  clear hn
  have hn1 : 1 ≤ n := by omega
  have hn2 : n ≤ 4096 := by omega
  clear hrc hrc1
  go_enter Try.func77, Try.ntmps77
  go_wp2_with (first | ((with_reducible refine gate_dst (N := 12) rfl ?_); refine box_event ?hg (N := 12) ?hd (cs := #[.slice none 0 0, .pointer (some ⟨gT, 0, none⟩)]) (t := 108) ?hr ?_; (case hd => rfl); (case hg => rfl); (case hr => first | (go_simp; done) | (go_simp; rfl)); intro gp hg w1 hbox hb; have HB := Aside0.mk hb; have BKp := Aside0.mk hbox; have GEp := Aside0.mk (show w.heap.size ≤ gp by rw [hg]; exact Nat.le_refl _); clear hb hbox hg) | ((with_reducible refine gate_dst (N := 16) rfl ?_); refine Kd.R_make (Kd.int .u8) (w0 := w) w.heap.size 5 rfl (N := 16) rfl 78 _ _ rfl (n : Int) rfl rfl Try.underlying78 (.int .u8 0) 1 (by kernel_rfl) rfl (by decide) (by omega) 0 (ok := fun _ => True) (okp := fun _ => True) rfl (fun _ hk => hk) trivial (by omega) (by rw [Int.toNat_natCast]; omega) HB.out (below_size HB.out) ?_; intro v1 w2 ho hb2 hg_ hnew_; rw [Int.toNat_natCast] at ho; obtain ⟨gO, cO, eO, hgO, hlO, cellsO, hcO⟩ := Kd.R_form ho (by rw [List.length_replicate]; omega); rw [List.length_replicate] at eO; subst eO; have hpO : gp ≠ gO := (by obtain ⟨b_, hb_, hs_⟩ := hnew_; simp [Value.ownBlock] at hb_; have := blk_lt BKp.out; omega); have NPO := Aside0.mk hpO; obtain ⟨z1_, hcO2, z2_⟩ := Kd.R_reads' ho; clear z1_ z2_; have HCO := Aside0.mk hcO2; have n0_ := Aside0.mk hb2; have n1_ := Aside0.mk (blk_grown BKp.out hg_ (by simp)); have HO := Aside0.mk (Kd.R_mono (ok' := fun k => k ≠ gp) (Kd.R_tight rfl ho) (fun k hk e_ => Kd.R_ne ho (blk_grown BKp.out hg_ (by simp)) (by decide) (by rw [← e_]; exact hk))); have GO := Aside0.mk hgO; clear HB BKp; have HB := n0_; have BKp := n1_; clear n0_ n1_; clear ho hb2 hg_ hnew_ hcO hgO hlO hpO hcO2))
  go_loopw [18] (fun v18 wr => ∃ (i : Nat) (vR : Value), i ≤ r ∧ v18 = .int .i64 (i : Int) ∧ Aside0 (wr.heap[gp]? = some (.cells #[vR, .pointer (some ⟨gT, 0, none⟩)] 108 (0, 0))) ∧ Aside0 ((Kd.int .u8).R 5 wr w.heap.size (fun k => k ≠ gp) (.slice (some ⟨gO, 0, none⟩) n cO) (List.replicate n 0)) ∧ Aside0 ((Kd.raw 1).R 78 wr w.heap.size (fun k => k ≠ gp ∧ k ≠ gO) vR (rowVs gO c cO i)) ∧ Aside0 (Below w.heap.size w wr)) (fun v18 _ => r - (intOf v18).toNat)
  case atStart => exact ⟨0, _, Nat.zero_le _, rfl, BKp, HO, ⟨Kd.R_nil _ _ _ _ _⟩, HB⟩
  case round =>
    clear HB BKp HO
    obtain ⟨i, vR, hi, rfl, BKp, HO, HR, HB⟩ := hrel
    by_cases hlt : i < r
    · have c0 : decide ((i : Int) < (r : Int)) = true := decide_eq_true (by omega)
      obtain ⟨p, hp⟩ : ∃ p, i * c = p := ⟨_, rfl⟩
      obtain ⟨m1, m2⟩ := mul_lt hlt hc1
      rw [HN.out, hp] at m1 m2
      have hcO := HCO.out
      obtain ⟨q, hq⟩ : ∃ q, p + c = q := ⟨_, rfl⟩
      rw [hq] at m2
      have hwi := ng_w0 (Nat.le_trans hi hr)
      have hw1 := ng_w1 hp (Nat.le_trans (Nat.le_of_lt m1) hn2)
      have hw2 := ng_w2 hp hq (Nat.le_trans m2 hn2)
      have HP := Aside0.mk hp
      clear hp
      have hb1 : p ≤ q := by rw [← hq]; exact Nat.le_add_right _ _
      have hb2 : q ≤ cO := Nat.le_trans m2 hcO
      have hb3 : ¬ cO = p := Nat.ne_of_gt (Nat.lt_of_lt_of_le m1 hcO)
      have hb4 : q - p = c := by rw [← hq]; exact Nat.add_sub_cancel_left _ _
      clear hq m1 m2 hcO
      go_wp2
      have n0_ : Aside0 (wr.drew.heap[gp]? = some (.cells #[vR, .pointer (some ⟨gT, 0, none⟩)] 108 (0, 0))) := ⟨blk_drew BKp.out⟩
      have n1_ : Aside0 (((Kd.int .u8).R 5 wr.drew w.heap.size (fun k => k ≠ gp) (.slice (some ⟨gO, 0, none⟩) n cO) (List.replicate n 0))) := ⟨Kd.R_drew HO.out⟩
      have n2_ : Aside0 (((Kd.raw 1).R 78 wr.drew w.heap.size (fun k => k ≠ gp ∧ k ≠ gO) vR (rowVs gO c cO i))) := ⟨Kd.R_drew HR.out⟩
      have n3_ : Aside0 (Below w.heap.size w wr.drew) := ⟨below_drew1 HB.out⟩
      clear BKp HO HR HB
      have BKp := n0_
      have HO := n1_
      have HR := n2_
      have HB := n3_
      clear n0_ n1_ n2_ n3_
      refine start_ (n := 19) (S := fun w' => w'.cell? ⟨gp, 0, none⟩ = some vR) (ds := [18]) #[false, false, false, false, false, false, false, false, false, false, false, false, false, false, false, false, false, false, false] (by kernel_rfl) rfl rfl ((blk_cell BKp.out 0).trans rfl) (fun hHeld => ?_)
      generalize wr.drew = w7 at BKp HO HR HB hHeld ⊢
      refine pure_ (i := 0) (N := some 21) (v := ?_) (a' := ?_) #[true, false, false, false, false, false, false, false, false, false, false, false, false, false, false, false, false, false, false] rfl rfl (by kernel_rfl) (fun _ _ _ h => h) (Or.inl ⟨by rfl, ?_⟩) ?_ ?_; rotate_left; intro w'; go_simp; with_reducible rfl; rotate_left; simp only [Cap.pz]; rfl
      refine pure_ (i := 1) (N := some 22) (v := ?_) (a' := ?_) #[true, true, false, false, false, false, false, false, false, false, false, false, false, false, false, false, false, false, false] rfl rfl (by kernel_rfl) (fun _ _ _ h => h) (Or.inl ⟨by rfl, ?_⟩) ?_ ?_; rotate_left; intro w'; go_simp; with_reducible rfl; rotate_left; simp only [Cap.pz]; rfl
      refine pure_ (i := 2) (N := some 23) (v := ?_) (a' := ?_) #[true, true, true, false, false, false, false, false, false, false, false, false, false, false, false, false, false, false, false] rfl rfl (by kernel_rfl) (fun _ _ _ h => h) (Or.inl ⟨by rfl, ?_⟩) ?_ ?_; rotate_left; intro w'; go_simp; with_reducible rfl; rotate_left; simp only [Cap.pz]; rfl
      refine pure_ (i := 3) (N := some 24) (v := ?_) (a' := ?_) #[true, true, true, true, false, false, false, false, false, false, false, false, false, false, false, false, false, false, false] rfl rfl (by kernel_rfl) (fun _ _ _ h => h) (Or.inl ⟨by rfl, ?_⟩) ?_ ?_; rotate_left; intro w'; go_simp; with_reducible rfl; rotate_left; simp only [Cap.pz]; rfl
      refine take_ (i := 4) (N := some 25) (v := ?_) (a' := ?_) #[true, true, true, true, true, false, false, false, false, false, false, false, false, false, false, false, false, false, false] rfl rfl (by kernel_rfl) (fun _ _ _ h => h) (Or.inl ⟨by rfl, ?_⟩) hHeld ?_ ?_; rotate_left; rintro w' s0; go_simp; with_reducible rfl; rotate_left; simp only [Cap.pz]; rfl
      refine pure_ (i := 5) (N := some 26) (v := ?_) (a' := ?_) #[true, true, true, true, true, true, false, false, false, false, false, false, false, false, false, false, false, false, false] rfl rfl (by kernel_rfl) (fun _ _ _ h => h) (Or.inl ⟨by rfl, ?_⟩) ?_ ?_; rotate_left; intro w'; go_simp; with_reducible rfl; rotate_left; simp only [Cap.pz]; rfl
      refine pure_ (i := 6) (N := some 27) (v := ?_) (a' := ?_) #[true, true, true, true, true, true, true, false, false, false, false, false, false, false, false, false, false, false, false] rfl rfl (by kernel_rfl) (fun _ _ _ h => h) (Or.inl ⟨by rfl, ?_⟩) ?_ ?_; rotate_left; intro w'; go_simp; with_reducible rfl; rotate_left; simp only [Cap.pz]; rfl
      refine pure_ (i := 7) (N := some 28) (v := ?_) (a' := ?_) #[true, true, true, true, true, true, true, true, false, false, false, false, false, false, false, false, false, false, false] rfl rfl (by kernel_rfl) (fun _ _ _ h => h) (Or.inl ⟨by rfl, ?_⟩) ?_ ?_; rotate_left; intro w'; go_simp; with_reducible rfl; rotate_left; simp only [Cap.pz]; rfl
      refine pure_ (i := 8) (N := some 29) (v := ?_) (a' := ?_) #[true, true, true, true, true, true, true, true, true, false, false, false, false, false, false, false, false, false, false] rfl rfl (by kernel_rfl) (fun _ _ _ h => h) (Or.inl ⟨by rfl, ?_⟩) ?_ ?_; rotate_left; intro w'; go_simp; with_reducible rfl; rotate_left; simp only [Cap.pz]; rfl
      refine pure_ (i := 9) (N := some 30) (v := ?_) (a' := ?_) #[true, true, true, true, true, true, true, true, true, true, false, false, false, false, false, false, false, false, false] rfl rfl (by kernel_rfl) (fun _ _ _ h => h) (Or.inl ⟨by rfl, ?_⟩) ?_ ?_; rotate_left; intro w'; go_simp; with_reducible rfl; rotate_left; simp only [Cap.pz]; rfl
      refine pure_ (i := 10) (N := some 31) (v := ?_) (a' := ?_) #[true, true, true, true, true, true, true, true, true, true, true, false, false, false, false, false, false, false, false] rfl rfl (by kernel_rfl) (fun _ _ _ h => h) (Or.inl ⟨by rfl, ?_⟩) ?_ ?_; rotate_left; intro w'; go_simp; with_reducible rfl; rotate_left; simp only [Cap.pz]; rfl
      refine pure_ (i := 11) (N := some 32) (v := ?_) (a' := ?_) #[true, true, true, true, true, true, true, true, true, true, true, true, false, false, false, false, false, false, false] rfl rfl (by kernel_rfl) (fun _ _ _ h => h) (Or.inl ⟨by rfl, ?_⟩) ?_ ?_; rotate_left; intro w'; go_simp; with_reducible rfl; rotate_left; simp only [Cap.pz]; rfl
      refine pure_ (i := 12) (N := some 33) (v := ?_) (a' := ?_) #[true, true, true, true, true, true, true, true, true, true, true, true, true, false, false, false, false, false, false] rfl rfl (by kernel_rfl) (fun _ _ _ h => h) (Or.inl ⟨by rfl, ?_⟩) ?_ ?_; rotate_left; intro w'; go_simp; with_reducible rfl; rotate_left; simp only [Cap.pz]; rfl
      refine pure_ (i := 13) (N := some 34) (v := ?_) (a' := ?_) #[true, true, true, true, true, true, true, true, true, true, true, true, true, true, false, false, false, false, false] rfl rfl (by kernel_rfl) (fun _ _ _ h => h) (Or.inl ⟨by rfl, ?_⟩) ?_ ?_; rotate_left; intro w'; go_simp; with_reducible rfl; rotate_left; simp only [Cap.pz]; rfl
      refine one_ (i := 14) (N := some 35) #[true, true, true, true, true, true, true, true, true, true, true, true, true, true, true, false, false, false, false] rfl rfl (by kernel_rfl) (by decide) (fun Kq hK => ?_)
      refine value_ (w1 := ?_) (v := ?_) (by rfl) rfl ?_ ?_
      rotate_left 2
      · go_simp
        constructor
        · rfl
        · rfl
      refine hK.out _ _ ((blk_cell (blk_alloc BKp.out _) 0).trans rfl) (fun hHeld => ?_)
      clear hK Kq
      refine norm_ (a' := ?_) ?_ ?_; rotate_left; show Act.put _ (some 35) _ = _; simp only [Cap.pz]; rfl
      refine one_ (i := 15) (N := some 36) #[true, true, true, true, true, true, true, true, true, true, true, true, true, true, true, true, false, false, false] rfl rfl (by kernel_rfl) (by decide) (fun Kq hK => ?_)
      refine Kd.R_append_step (Kd.raw 1) (w0 := w) w.heap.size (by rfl) (.tmp 25) (.tmp 35) 106 78 (.slice none 0 0) 24 rfl Try.underlying106 (by kernel_rfl) rfl (by decide) (by omega) vR (rowVs gO c cO i) [.slice (some ⟨gO, p, none⟩) c (cO - p)] [.slice (some ⟨gO, p, none⟩) c (cO - p)] (fun k => k ≠ gp ∧ k ≠ gO) (fun _ => False) rfl rfl ?aP (fun _ hk => hk.elim) ?aF ?aO ?aB ?aS ?aL ?_
      (case aP => exact ⟨rfl, rfl, by simp [Value.oneCell']⟩)
      (case aB => exact HB.out)
      (case aF => exact (fun k hk => by have h1 := blk_lt BKp.out; obtain ⟨_, _, e_, _, h_, _⟩ := Kd.R_form HO.out (by rw [List.length_replicate]; omega); injection e_ with e_ _ _; injection e_ with e_; injection e_ with e_; omega))
      (case aO => exact HR.out)
      (case aS => exact below_size HB.out)
      (case aL => rw [rowVs_len]; omega)
      intro vR2 w8 ho hb hg hat
      have nP_ : some gp ≠ vR.ownBlock := fun e => (HR.out.1 gp e.symm).1 rfl
      have nO_ : some gO ≠ vR.ownBlock := fun e => (HR.out.1 gO e.symm).2 rfl
      have er_ : rowVs gO c cO i ++ [[.slice (some ⟨gO, p, none⟩) c (cO - p)]] = rowVs gO c cO (i + 1) := by rw [← rowVs_succ]; unfold rowV; rw [HP.out]
      rw [er_] at ho
      have n0_ : Aside0 (w8.heap[gp]? = some (.cells #[vR, .pointer (some ⟨gT, 0, none⟩)] 108 (0, 0))) := ⟨blk_grown BKp.out hg nP_⟩
      have n1_ : Aside0 (((Kd.int .u8).R 5 w8 w.heap.size (fun k => k ≠ gp) (.slice (some ⟨gO, 0, none⟩) n cO) (List.replicate n 0))) := ⟨Kd.R_mono (Kd.R_step (Kd.R_bound (Kd.R_tight rfl HO.out)) (fun k hk hk2 => hg.block k hk2 (by have h_ : k = gO := (by simpa [Value.ownBlock] using hk.1); rw [h_]; exact nO_))) (fun k hk e => by have h_ : k = gO := (by simpa [Value.ownBlock] using hk.1); exact NPO.out (e.symm.trans h_))⟩
      have n2_ : Aside0 (((Kd.raw 1).R 78 w8 w.heap.size (fun k => k ≠ gp ∧ k ≠ gO) vR2 (rowVs gO c cO (i + 1)))) := ⟨ho⟩
      have n3_ : Aside0 (Below w.heap.size w w8) := ⟨hb⟩
      clear BKp HO HR HB
      have BKp := n0_
      have HO := n1_
      have HR := n2_
      have HB := n3_
      clear n0_ n1_ n2_ n3_
      clear ho hb hg hat nP_ nO_ er_
      obtain ⟨AG2, cG2, eG2⟩ := Kd.R_slice HR.out
      rw [rowVs_len] at eG2
      subst eG2
      refine hK.out _ _ ((blk_cell BKp.out 0).trans rfl) (fun hHeld => ?_)
      clear hK Kq
      refine norm_ (a' := ?_) ?_ ?_; rotate_left; show Act.put _ (some 36) _ = _; simp only [Cap.pz]; rfl
      refine pure_ (i := 16) (N := some 37) (v := ?_) (a' := ?_) #[true, true, true, true, true, true, true, true, true, true, true, true, true, true, true, true, true, false, false] rfl rfl (by kernel_rfl) (fun _ _ _ h => h) (Or.inl ⟨by rfl, ?_⟩) ?_ ?_; rotate_left; intro w'; go_simp; with_reducible rfl; rotate_left; simp only [Cap.pz]; rfl
      refine pure_ (i := 17) (N := some 38) (v := ?_) (a' := ?_) #[true, true, true, true, true, true, true, true, true, true, true, true, true, true, true, true, true, true, false] rfl rfl (by kernel_rfl) (fun _ _ _ h => h) (Or.inl ⟨by rfl, ?_⟩) ?_ ?_; rotate_left; intro w'; go_simp; with_reducible rfl; rotate_left; simp only [Cap.pz]; rfl
      refine last_ (i := 18) (N := none) #[true, true, true, true, true, true, true, true, true, true, true, true, true, true, true, true, true, true, true] rfl rfl (by kernel_rfl) (by decide) (fun Kq hK => ?_)
      have hcs : w8.cell? ⟨gp, 0, none⟩ = some vR := (blk_cell BKp.out 0).trans rfl
      have hfs := blk_frozen BKp.out 0
      refine skip_ (w1 := ?_) (by rfl) rfl ?_ ?_
      rotate_left
      · go_simp
        rfl
      refine hK.out _ _ ?_
      clear hK Kq
      refine done_ (by kernel_rfl) ?_
      go_wp2
      refine ⟨⟨i + 1, _, by omega, by go_num, ⟨blk_put BKp.out 0 _ rfl⟩, ⟨Kd.R_step HO.out (fun k ho _ => Below.heap_setCell _ _ _ k ho)⟩, ⟨Kd.R_step HR.out (fun k ho _ => Below.heap_setCell _ _ _ k ho.1)⟩, ⟨below_set HB.out GEp.out⟩⟩, ?_⟩
      simp [intOf]; omega
    · have c0 : decide ((i : Int) < (r : Int)) = false := decide_eq_false (by omega)
      have ei : i = r := by omega
      go_wp2
      go_ret
      have hr_ := HR.out
      rw [ei] at hr_
      obtain ⟨gR, cR, eR, hgR, hlR, cellsR, hcR⟩ := Kd.R_form hr_ (by rw [rowVs_len]; omega)
      rw [rowVs_len] at eR
      subst eR
      obtain ⟨inn_, hown_⟩ := Kd.R_own hr_
      rw [rowVs_len] at hown_
      obtain ⟨cs2_, ho2_⟩ := ng_own hown_
      have hne1 : gp ≠ gR := fun e => (hr_.1 gR rfl).1 e.symm
      have hne2 : gR ≠ gO := (hr_.1 gR rfl).2
      obtain ⟨_, _, e_, _, hlO, _⟩ := Kd.R_form HO.out (by rw [List.length_replicate]; omega)
      injection e_ with e_ _ _
      injection e_ with e_
      injection e_ with e_
      refine ⟨gp, gR, gO, cO, rfl, GEp.out, hgR, GO.out, ⟨⟨cR, (blk_cell BKp.out 0).trans rfl⟩, (blk_cell BKp.out 1).trans rfl, fun j hj => ?_, by rw [List.length_replicate], fun j hj => ?_, fun j hj => ?_, hne1, NPO.out, hne2, by omega, by rw [HN.out]; exact HCO.out, fun j hj => blk_frozen ho2_ j, blk_lt ho2_⟩, HB.out⟩
      · obtain ⟨ad, e3, hcl⟩ := (Kd.R_reads' hr_).2.2.2.2 (by rw [rowVs_len]; omega)
        cases e3
        obtain ⟨cs, h1, ⟨h2, _, _⟩, h3⟩ := hcl j [rowV gO c cO j] (by unfold rowVs; rw [List.getElem?_map, List.getElem?_range hj]; rfl)
        subst h2
        have h4 := h3 0 _ rfl
        rw [add_plain] at h4
        have z : j * (Kd.raw 1).sz + 0 = j := Nat.mul_one j
        rw [z] at h4
        exact h4
      · have h := (Kd.R_celln 0 HO.out (j : Int) (by omega) (by rw [HN.out] at hj; omega)).1
        rw [Int.toNat_natCast] at h
        rw [h, HN.out]
        rfl
      · have h := (Kd.R_celln 0 HO.out (j : Int) (by omega) (by rw [HN.out] at hj; omega)).2
        rwa [Int.toNat_natCast] at h

/-! ### impl_gridOf: function 76 -/
def gl (l : List Int) (n i : Nat) : List Int := l.take i ++ List.replicate (n - i) 0
theorem gl_zero (l : List Int) (n : Nat) : List.replicate n (0 : Int) = gl l n 0 := by unfold gl; simp
theorem gl_full (l : List Int) (n : Nat) (h : l.length = n) : gl l n n = l := by unfold gl; rw [Nat.sub_self, List.replicate_zero, List.append_nil, List.take_of_length_le (by omega)]
theorem gl_set (l : List Int) (n i : Nat) (h : l.length = n) (hi : i < n) : (gl l n i).set i (rd l (i : Int)) = gl l n (i + 1) := by
  unfold gl
  have e : rd l (i : Int) = l[i]'(by omega) := by unfold rd; rw [Int.toNat_natCast, List.getD_eq_getElem?_getD, List.getElem?_eq_getElem (by omega)]; rfl
  rw [List.set_append_right _ _ (by rw [List.length_take]; omega), List.length_take, Nat.min_eq_left (by omega), Nat.sub_self, show n - i = (n - (i + 1)) + 1 by omega, List.replicate_succ, List.set_cons_zero, List.take_add_one, List.getElem?_eq_getElem (by omega), e, List.append_assoc]
  rfl
theorem u8_id {x : Int} (h0 : 0 ≤ x) (h1 : x < 256) : IntKind.u8.wrap x = x := by rw [IntKind.wrap_u8]; omega
theorem wa64 {a : Nat} (h : a ≤ 64) : wrap64 (a : Int) = (a : Int) := by unfold wrap64; omega
theorem nat_tdiv (i c : Nat) : Int.tdiv (i : Int) (c : Int) = ((i / c : Nat) : Int) := rfl
theorem nat_tmod (i c : Nat) : Int.tmod (i : Int) (c : Int) = ((i % c : Nat) : Int) := rfl
set_option maxHeartbeats 8000000 in
set_option maxRecDepth 100000 in
theorem impl_gridOf.callsN (r c gT : Nat) (A0 : Option Addr) (c0 : Nat) (l : List Int) (hr1 : 1 ≤ r) (hc1 : 1 ≤ c) (hr : r ≤ 64) (hc : c ≤ 64) (hl : l.length = r * c) (hv : ∀ x ∈ l, 0 ≤ x ∧ x < 256) (w : World) (hC : Kd.C (Kd.int .i64) w A0 l.length l) :
    Calls Try.prog 76 #[.pointer (some ⟨gT, 0, none⟩), .agg #[.int .i64 (r : Int), .int .i64 (c : Int), .slice A0 l.length c0]] w fun e w' => ∃ g R A cA, e = .returned (.pointer (some ⟨g, 0, none⟩)) ∧ w.heap.size ≤ g ∧ w.heap.size ≤ R ∧ w.heap.size ≤ A ∧ GridIn w' g R A r c cA gT l ∧ Below w.heap.size w w' := by
  have hrc : r * c ≤ 64 * 64 := Nat.mul_le_mul hr hc
  have hrc1 : 1 * 1 ≤ r * c := Nat.mul_le_mul hr1 hc1
  obtain ⟨n, hn⟩ : ∃ n, l.length = n := ⟨_, rfl⟩
  have hn1 : 1 ≤ n := by omega
  have hn2 : n ≤ 4096 := by omega
  obtain ⟨ad0, rfl, _⟩ := Kd.at_int hC (0 : Int) (by omega) (by omega)
  have HC := Aside0.mk hC
  have HL := Aside0.mk hl
  have HN := Aside0.mk hn
  have HV := Aside0.mk (show ∀ i, i < n → 0 ≤ rd l (i : Int) ∧ rd l (i : Int) < 256 from fun i hi => by
    have hi2 : i < l.length := by omega
    unfold rd
    rw [Int.toNat_natCast, List.getD_eq_getElem?_getD, List.getElem?_eq_getElem hi2]
    exact hv _ (List.getElem_mem hi2))
  rw [hn]
  clear hC hl hn hv hrc hrc1
  go_enter Try.func76, Try.ntmps76
  go_wp2_with (first | ((with_reducible refine gate_dst (N := 3) rfl ?_); refine box_event ?hg (N := 3) ?hd (cs := #[.int .i64 (r : Int), .int .i64 (c : Int), .slice (some ad0) n c0]) (t := 34) ?hr ?_; (case hd => rfl); (case hg => rfl); (case hr => first | (go_simp; done) | (go_simp; rfl)); intro gc hg w1 hbox hb; have HB := Aside0.mk hb; have BKc := Aside0.mk hbox; clear hb hbox hg; have hz1 : w1.cell? ⟨gc, 0, none⟩ = some (.int .i64 (r : Int)) := (blk_cell BKc.out 0).trans rfl; have hz2 : w1.cell? ⟨gc, 1, none⟩ = some (.int .i64 (c : Int)) := (blk_cell BKc.out 1).trans rfl) | (go_at_call 77; (with_reducible refine (impl_newGrid.callsN r c gT hr1 hc1 hr hc _).mono ?_); rintro e w2 ⟨g, R, A, cA, rfl, hg_, hR_, hA_, hG_, hb_⟩; have n0_ := Aside0.mk (blk_below BKc.out hb_); have n1_ := Aside0.mk (below_step HB.out hb_); have HG := Aside0.mk hG_; have GE := Aside0.mk (And.intro (Nat.le_trans (below_size HB.out) hg_) (And.intro (Nat.le_trans (below_size HB.out) hR_) (Nat.le_trans (below_size HB.out) hA_))); have NE := Aside0.mk (show gc ≠ A from (fun e_ => (by have := blk_lt BKc.out; omega))); clear HB BKc hz1 hz2 hg_ hR_ hA_ hG_ hb_; have BKc := n0_; have HB := n1_; clear n0_ n1_; have hz3 : w2.cell? ⟨gc, 2, none⟩ = some (.slice (some ad0) n c0) := (blk_cell BKc.out 2).trans rfl))
  clear hz3
  go_loopw [17] (fun v17 wr => ∃ i : Nat, i ≤ n ∧ v17 = .int .i64 (i : Int) ∧ Aside0 (wr.heap[gc]? = some (.cells #[.int .i64 (r : Int), .int .i64 (c : Int), .slice (some ad0) n c0] 34 (0, 0))) ∧ Aside0 (GridIn wr g R A r c cA gT (gl l n i)) ∧ Aside0 (Below w.heap.size w wr)) (fun v17 _ => n - (intOf v17).toNat)
  case atStart => exact ⟨0, Nat.zero_le _, rfl, BKc, ⟨by rw [← gl_zero, ← HN.out, HL.out]; exact HG.out⟩, HB⟩
  case round =>
    clear HB BKc HG
    obtain ⟨i, hi, rfl, BKc, HG, HB⟩ := hrel
    by_cases hlt : i < n
    · obtain ⟨ad0_, e0_, hci⟩ := Kd.at_int (Kd.C_below HC.out HB.out) (i : Int) (by omega) (by rw [HN.out]; omega)
      cases e0_
      rw [Int.toNat_natCast] at hci
      obtain ⟨x, hx⟩ : ∃ x, rd l (i : Int) = x := ⟨_, rfl⟩
      have hxb := HV.out i hlt
      rw [hx] at hci hxb
      have HX := Aside0.mk hx
      obtain ⟨a, ha⟩ : ∃ a, i / c = a := ⟨_, rfl⟩
      obtain ⟨b, hb⟩ : ∃ b, i % c = b := ⟨_, rfl⟩
      have hbc : b < c := by rw [← hb]; exact Nat.mod_lt _ (by omega)
      have hab : a * c + b = i := by rw [← ha, ← hb, Nat.mul_comm]; exact Nat.div_add_mod i c
      have har : a < r := by rw [← ha]; exact Nat.div_lt_of_lt_mul (by rw [Nat.mul_comm, ← HL.out, HN.out]; exact hlt)
      have hq1 := nat_tdiv i c
      have hq2 := nat_tmod i c
      rw [ha] at hq1
      rw [hb] at hq2
      have hq3 : (i : Int) / (c : Int) = (a : Int) := by rw [← Int.natCast_ediv, ha]
      have hq4 : (i : Int) % (c : Int) = (b : Int) := by rw [← Int.natCast_emod, hb]
      have hu := u8_id hxb.1 hxb.2
      obtain ⟨cR, hgd⟩ := HG.out.hd
      have hgr := HG.out.rows a har
      obtain ⟨p, hp⟩ : ∃ p, a * c = p := ⟨_, rfl⟩
      unfold rowV at hgr
      rw [hp] at hgr hab
      have hcel := HG.out.cell i (by rw [← HL.out, HN.out]; exact hlt)
      have hfre := HG.out.free i (by rw [← HL.out, HN.out]; exact hlt)
      rw [← hab] at hcel hfre
      have HGD := Aside0.mk hgd
      have HGR := Aside0.mk hgr
      have HCE := Aside0.mk hcel
      have HFR := Aside0.mk hfre
      have HAB := Aside0.mk hab
      have hcn : ¬ c = 0 := by omega
      have hwa : wrap64 (a : Int) = (a : Int) := wa64 (by omega)
      have hwb : wrap64 (b : Int) = (b : Int) := wa64 (by omega)
      clear hx ha hb hgd hgr hcel hfre hab hp
      go_wp2
      refine start_ (n := 18) (S := fun w' => w'.cell? ⟨g, 0, none⟩ = some (.slice (some ⟨R, 0, none⟩) r cR) ∧ w'.cell? ⟨R, a, none⟩ = some (.slice (some ⟨A, p, none⟩) c (cA - p)) ∧ w'.cell? ⟨gc, 1, none⟩ = some (.int .i64 (c : Int))) (ds := [17]) #[false, false, false, false, false, false, false, false, false, false, false, false, false, false, false, false, false, false] (by kernel_rfl) rfl rfl ⟨HGD.out, HGR.out, (blk_cell BKc.out 1).trans rfl⟩ (fun hHeld => ?_)
      refine pure_ (i := 0) (N := some 22) (v := ?_) (a' := ?_) #[true, false, false, false, false, false, false, false, false, false, false, false, false, false, false, false, false, false] rfl rfl (by kernel_rfl) (fun _ _ _ h => h) (Or.inl ⟨by rfl, ?_⟩) ?_ ?_; rotate_left; intro w'; go_simp; with_reducible rfl; rotate_left; simp only [Cap.pz]; rfl
      refine pure_ (i := 1) (N := some 23) (v := ?_) (a' := ?_) #[true, true, false, false, false, false, false, false, false, false, false, false, false, false, false, false, false, false] rfl rfl (by kernel_rfl) (fun _ _ _ h => h) (Or.inl ⟨by rfl, ?_⟩) ?_ ?_; rotate_left; intro w'; go_simp; with_reducible rfl; rotate_left; simp only [Cap.pz]; rfl
      refine pure_ (i := 2) (N := some 24) (v := ?_) (a' := ?_) #[true, true, true, false, false, false, false, false, false, false, false, false, false, false, false, false, false, false] rfl rfl (by kernel_rfl) (fun _ _ _ h => h) (Or.inl ⟨by rfl, ?_⟩) ?_ ?_; rotate_left; intro w'; go_simp; with_reducible rfl; rotate_left; simp only [Cap.pz]; rfl
      refine take_ (i := 3) (N := some 25) (v := ?_) (a' := ?_) #[true, true, true, true, false, false, false, false, false, false, false, false, false, false, false, false, false, false] rfl rfl (by kernel_rfl) (fun _ _ _ h => h) (Or.inl ⟨by rfl, ?_⟩) hHeld ?_ ?_; rotate_left; rintro w' ⟨s0, s1, s2⟩; go_simp; with_reducible rfl; rotate_left; simp only [Cap.pz]; rfl
      refine pure_ (i := 4) (N := some 26) (v := ?_) (a' := ?_) #[true, true, true, true, true, false, false, false, false, false, false, false, false, false, false, false, false, false] rfl rfl (by kernel_rfl) (fun _ _ _ h => h) (Or.inl ⟨by rfl, ?_⟩) ?_ ?_; rotate_left; intro w'; go_simp; with_reducible rfl; rotate_left; simp only [Cap.pz]; rfl
      refine pure_ (i := 5) (N := some 27) (v := ?_) (a' := ?_) #[true, true, true, true, true, true, false, false, false, false, false, false, false, false, false, false, false, false] rfl rfl (by kernel_rfl) (fun _ _ _ h => h) (Or.inl ⟨by rfl, ?_⟩) ?_ ?_; rotate_left; intro w'; go_simp; with_reducible rfl; rotate_left; simp only [Cap.pz]; rfl
      refine take_ (i := 6) (N := some 28) (v := ?_) (a' := ?_) #[true, true, true, true, true, true, true, false, false, false, false, false, false, false, false, false, false, false] rfl rfl (by kernel_rfl) (fun _ _ _ h => h) (Or.inl ⟨by rfl, ?_⟩) hHeld ?_ ?_; rotate_left; rintro w' ⟨s0, s1, s2⟩; go_simp; with_reducible rfl; rotate_left; simp only [Cap.pz]; rfl
      refine pure_ (i := 7) (N := some 29) (v := ?_) (a' := ?_) #[true, true, true, true, true, true, true, true, false, false, false, false, false, false, false, false, false, false] rfl rfl (by kernel_rfl) (fun _ _ _ h => h) (Or.inl ⟨by rfl, ?_⟩) ?_ ?_; rotate_left; intro w'; go_simp; with_reducible rfl; rotate_left; simp only [Cap.pz]; rfl
      refine pure_ (i := 8) (N := some 30) (v := ?_) (a' := ?_) #[true, true, true, true, true, true, true, true, true, false, false, false, false, false, false, false, false, false] rfl rfl (by kernel_rfl) (fun _ _ _ h => h) (Or.inl ⟨by rfl, ?_⟩) ?_ ?_; rotate_left; intro w'; go_simp; with_reducible rfl; rotate_left; simp only [Cap.pz]; rfl
      refine take_ (i := 9) (N := some 31) (v := ?_) (a' := ?_) #[true, true, true, true, true, true, true, true, true, true, false, false, false, false, false, false, false, false] rfl rfl (by kernel_rfl) (fun _ _ _ h => h) (Or.inl ⟨by rfl, ?_⟩) hHeld ?_ ?_; rotate_left; rintro w' ⟨s0, s1, s2⟩; go_simp; with_reducible rfl; rotate_left; simp only [Cap.pz]; rfl
      refine pure_ (i := 10) (N := some 32) (v := ?_) (a' := ?_) #[true, true, true, true, true, true, true, true, true, true, true, false, false, false, false, false, false, false] rfl rfl (by kernel_rfl) (fun _ _ _ h => h) (Or.inl ⟨by rfl, ?_⟩) ?_ ?_; rotate_left; intro w'; go_simp; with_reducible rfl; rotate_left; simp only [Cap.pz]; rfl
      refine pure_ (i := 11) (N := some 33) (v := ?_) (a' := ?_) #[true, true, true, true, true, true, true, true, true, true, true, true, false, false, false, false, false, false] rfl rfl (by kernel_rfl) (fun _ _ _ h => h) (Or.inl ⟨by rfl, ?_⟩) ?_ ?_; rotate_left; intro w'; go_simp; with_reducible rfl; rotate_left; simp only [Cap.pz]; rfl
      refine take_ (i := 12) (N := some 34) (v := ?_) (a' := ?_) #[true, true, true, true, true, true, true, true, true, true, true, true, true, false, false, false, false, false] rfl rfl (by kernel_rfl) (fun _ _ _ h => h) (Or.inl ⟨by rfl, ?_⟩) hHeld ?_ ?_; rotate_left; rintro w' ⟨s0, s1, s2⟩; go_simp; with_reducible rfl; rotate_left; simp only [Cap.pz]; rfl
      refine pure_ (i := 13) (N := some 35) (v := ?_) (a' := ?_) #[true, true, true, true, true, true, true, true, true, true, true, true, true, true, false, false, false, false] rfl rfl (by kernel_rfl) (fun _ _ _ h => h) (Or.inl ⟨by rfl, ?_⟩) ?_ ?_; rotate_left; intro w'; go_simp; with_reducible rfl; rotate_left; simp only [Cap.pz]; rfl
      refine pure_ (i := 14) (N := some 36) (v := ?_) (a' := ?_) #[true, true, true, true, true, true, true, true, true, true, true, true, true, true, true, false, false, false] rfl rfl (by kernel_rfl) (fun _ _ _ h => h) (Or.inl ⟨by rfl, ?_⟩) ?_ ?_; rotate_left; intro w'; go_simp; with_reducible rfl; rotate_left; simp only [Cap.pz]; rfl
      refine pure_ (i := 15) (N := some 37) (v := ?_) (a' := ?_) #[true, true, true, true, true, true, true, true, true, true, true, true, true, true, true, true, false, false] rfl rfl (by kernel_rfl) (fun _ _ _ h => h) (Or.inl ⟨by rfl, ?_⟩) ?_ ?_; rotate_left; intro w'; go_simp; with_reducible rfl; rotate_left; simp only [Cap.pz]; rfl
      refine pure_ (i := 16) (N := some 38) (v := ?_) (a' := ?_) #[true, true, true, true, true, true, true, true, true, true, true, true, true, true, true, true, true, false] rfl rfl (by kernel_rfl) (fun _ _ _ h => h) (Or.inl ⟨by rfl, ?_⟩) ?_ ?_; rotate_left; intro w'; go_simp; with_reducible rfl; rotate_left; simp only [Cap.pz]; rfl
      refine last_ (i := 17) (N := none) #[true, true, true, true, true, true, true, true, true, true, true, true, true, true, true, true, true, true] rfl rfl (by kernel_rfl) (by decide) (fun Kq hK => ?_)
      have hcg := HCE.out
      have hfg := HFR.out
      refine skip_ (w1 := ?_) (by rfl) rfl ?_ ?_
      rotate_left
      · go_simp
        rfl
      refine hK.out _ _ ?_
      clear hK Kq
      refine done_ (by kernel_rfl) ?_
      go_wp2
      go_roundw
      case rel => exact ⟨i + 1, by omega, by go_num, ⟨blk_far (blk_drew BKc.out) NE.out _⟩, ⟨by have h := (HG.out.below (below_drew1 (Below.refl _ _))).put i (by rw [← HL.out, HN.out]; exact hlt) x; rw [← HX.out, gl_set l n i HN.out hlt, HX.out] at h; rw [HAB.out]; exact h⟩, ⟨below_set (below_drew1 HB.out) GE.out.2.2⟩⟩
      case measure => simp [intOf]; omega
    · have ei : i = n := by omega
      go_wp2
      go_ret
      have h := HG.out
      rw [ei, gl_full l n HN.out] at h
      exact ⟨g, R, A, cA, rfl, GE.out.1, GE.out.2.1, GE.out.2.2, h, HB.out⟩

/-! ### impl_tables8_mul: function 78 -/
/-- The table's product. -/
def tabMul (a b : Nat) : Nat := if a = 0 then 0 else if b = 0 then 0 else tE 255 (lg a + lg b)
def impl_tables8_mul.f (_ : Int) (a : Int) (b : Int) : Option (Int) := some ((tabMul a.toNat b.toNat : Nat) : Int)
theorem impl_tables8_mul.callsN (g : Nat) (a : Nat) (ha : a < 256) (b : Nat) (hb : b < 256) (w : World) (hT : TabInv w g 255) :
    Calls Try.prog 78 #[.pointer (some ⟨g, 0, none⟩), .int .u8 (a : Int), .int .u8 (b : Int)] w fun e w' => e = .returned (.int .u8 ((tabMul a b : Nat) : Int)) ∧ Drawn0 w w' := by
  by_cases h0 : a = 0
  · subst h0
    go_enter Try.func78, Try.ntmps78
    go_wp2
    go_ret
    exact ⟨rfl, Drawn0.refl _⟩
  · have c0 : ((a : Int) == 0) = false := beq_eq_false_iff_ne.mpr (by omega)
    by_cases h1 : b = 0
    · subst h1
      have e : tabMul a 0 = 0 := by unfold tabMul; rw [if_neg h0, if_pos rfl]
      rw [e]
      go_enter Try.func78, Try.ntmps78
      go_wp2
      go_ret
      exact ⟨rfl, Drawn0.refl _⟩
    · have c1 : ((b : Int) == 0) = false := beq_eq_false_iff_ne.mpr (by omega)
      obtain ⟨l0, _⟩ := lg_facts ⟨a, ha⟩
      obtain ⟨l1, _⟩ := lg_facts ⟨b, hb⟩
      simp only at l0 l1
      have e0 : tL 255 a = lg a := by unfold tL; rw [if_pos ⟨h0, l0⟩]
      have e1 : tL 255 b = lg b := by unfold tL; rw [if_pos ⟨h1, l1⟩]
      have hl := hT.log a ha
      rw [e0] at hl
      have hm := hT.log b hb
      rw [e1] at hm
      have he := hT.exp (lg a + lg b) (by omega)
      have hw : IntKind.i64.wrap ((lg a : Int) + (lg b : Int)) = ((lg a + lg b : Nat) : Int) := by rw [IntKind.wrap_i64]; omega
      have hr : tabMul a b = tE 255 (lg a + lg b) := by unfold tabMul; rw [if_neg h0, if_neg h1]
      rw [hr]
      have b0 : (a : Int) < 256 := by omega
      have b2 : (b : Int) < 256 := by omega
      have b1 : ((lg a + lg b : Nat) : Int) < 512 := by omega
      have hl2 : w.drew.cell? ⟨g, 512 + a, none⟩ = some (.int .i64 ((lg a : Nat) : Int)) := hl
      have hm2 : w.drew.cell? ⟨g, 512 + b, none⟩ = some (.int .i64 ((lg b : Nat) : Int)) := hm
      have he2 : w.drew.cell? ⟨g, lg a + lg b, none⟩ = some (.int .u8 ((tE 255 (lg a + lg b) : Nat) : Int)) := he
      go_enter Try.func78, Try.ntmps78
      go_wp2
      go_region
      all_goals go_wp2
      all_goals go_ret
      all_goals exact ⟨rfl, ⟨⟨1, rfl⟩⟩⟩
theorem impl_tables8_mul.calls {t : Int} (g : Nat) (a : Int) (b : Int) (r : Int) (w : World) (h : impl_tables8_mul.f t a b = some r) (ha0 : 0 ≤ a ∧ a < 256) (hb0 : 0 ≤ b ∧ b < 256) (hT : TabInv w g 255) :
    Calls Try.prog 78 #[.pointer (some ⟨g, 0, none⟩), .int .u8 a, .int .u8 b] w fun e w' => e = .returned (.int .u8 r) ∧ Drawn0 w w' := by
  obtain ⟨m, rfl⟩ := Int.eq_ofNat_of_zero_le ha0.1
  obtain ⟨n, rfl⟩ := Int.eq_ofNat_of_zero_le hb0.1
  obtain rfl := Option.some.inj h
  exact impl_tables8_mul.callsN g m (by omega) n (by omega) w hT

end Go.Proofs.Ytcpmlelejlmpdaa.QFnCauchy
