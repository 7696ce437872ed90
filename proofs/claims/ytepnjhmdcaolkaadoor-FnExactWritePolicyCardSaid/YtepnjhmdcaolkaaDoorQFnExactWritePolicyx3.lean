-- A text of this session, printed by a program of its own (wip/tools: xpatch.py, xprint.sh, mkq.py). No condition.
import Derived.Test.YtepnjhmdcaolkaaDoorQFnExactWritePolicyx0
import Derived.Test.YtepnjhmdcaolkaaDoorQFnExactWritePolicyx2
namespace Go.Proofs.YtepnjhmdcaolkaaDoor.QFnExactWritePolicy
open Go.RowKit Go.Proofs.YtepnjhmdcaolkaaDoorW.PrintWords Go.Proofs.YtepnjhmdcaolkaaDoorW.PrintLast Go.Proofs.YtepnjhmdcaolkaaDoorW.PrintMore
attribute [local go_sem] max2_int min2_int max_two min_two max_three min_three max_four min_four   -- for this text's walks alone
set_option linter.unusedVariables false
set_option linter.unusedSimpArgs false

/-! ### spec_PolicyFault: function 31 -/
def spec_PolicyFault.l0 : Nat → List (S58) → Int → Option (Int)
  | 0, _, _ => none
  | k + 1, x0, x3 => if x3 < (x0.length : Int) then (if 0 ≤ x3 then ((spec_l09Right.f k ((rd_T58 x0 x3).f0) ((rd_T58 x0 x3).f1) ((rd_T58 x0 x3).f2) ((rd_T58 x0 x3).f3) ((rd_T58 x0 x3).f4)).bind fun t129 => (if t129 = true then (if (((rd_T58 x0 x3).f4).length : Int) > 10 then (some 1) else (spec_PolicyFault.l0 k x0 (wrap64 (x3 + 1)))) else (some 1))) else (none)) else (some 0)
def spec_PolicyFault.f (k : Nat) (l0 : List (S58)) : Option (Int) := if (l0.length : Int) > 50 then (some 1) else (spec_PolicyFault.l0 k l0 0)
theorem spec_PolicyFault.mono_l : ∀ k, (∀ y0 y1, LeO (spec_PolicyFault.l0 k y0 y1) (spec_PolicyFault.l0 (k + 1) y0 y1))
  | 0 => fun _ _ r h => by simp [spec_PolicyFault.l0] at h
  | k + 1 => by
    have ih0 := spec_PolicyFault.mono_l k
    · intro y0 y1
      unfold spec_PolicyFault.l0
      repeat' first
      | (with_reducible exact ih0 _ _)
      | (with_reducible exact spec_l09Right.mono _ _ _ _ _ _)
      | (with_reducible exact LeO.refl _)
      | (with_reducible exact LeO.none _)
      | (with_reducible refine LeO.ite ?_ ?_)
      | (with_reducible refine LeO.bind ?_ (fun _ => ?_))
      | exact ih0 _ _
      | exact spec_l09Right.mono _ _ _ _ _ _
      | exact LeO.none _
      | refine LeO.ite ?_ ?_
      | refine LeO.bind ?_ (fun _ => ?_)
theorem spec_PolicyFault.mono : ∀ a0 k, LeO (spec_PolicyFault.f k a0) (spec_PolicyFault.f (k + 1) a0) := by
  intro a0 k
  have ih0 := spec_PolicyFault.mono_l k
  unfold spec_PolicyFault.f
  repeat' first
      | (with_reducible exact ih0 _ _)
      | (with_reducible exact spec_l09Right.mono _ _ _ _ _ _)
      | (with_reducible exact LeO.refl _)
      | (with_reducible exact LeO.none _)
      | (with_reducible refine LeO.ite ?_ ?_)
      | (with_reducible refine LeO.bind ?_ (fun _ => ?_))
      | exact ih0 _ _
      | exact spec_l09Right.mono _ _ _ _ _ _
      | exact LeO.none _
      | refine LeO.ite ?_ ?_
      | refine LeO.bind ?_ (fun _ => ?_)
set_option maxHeartbeats 8000000 in
set_option maxRecDepth 100000 in
theorem spec_PolicyFault.calls (k : Nat) (A0 : Option Addr) (c0 : Nat) (l0 : List (S58)) (r : Int) (w : World) (hr0 : Kd.C k58 w A0 l0.length l0) (hc0 : l0.length ≤ c0) (h : spec_PolicyFault.f k l0 = some r) :
  Calls Tryd.prog 31 #[.slice A0 l0.length c0] w fun e w' => e = .returned (.int .i64 r) ∧ Below w.heap.size w w' := by
 have hu58 := Tryd.underlying58
 have HR0 := Aside0.mk hr0
 have HC0 := Aside0.mk hc0
 clear hr0 hc0
 have HB := Aside0.mk (Below.refl w.heap.size w)
 have H : (if (l0.length : Int) > 50 then (some 1) else (spec_PolicyFault.l0 k l0 0)) = some r := h
 clear h
 by_cases c2 : (l0.length : Int) > 50
 ·
  rw [if_pos c2] at H
  have c2b0 : decide (50 < (l0.length : Int)) = true := decide_eq_true c2
  have c2b1 : decide (50 < l0.length) = true := decide_eq_true (by omega)
  clear c2
  obtain rfl := Option.some.inj H
  go_enter Tryd.func31, Tryd.ntmps31
  go_wp2
  go_ret
  exact ⟨by first | rfl | (simp [errW_none, errW_some] <;> rfl) | (simp [*, errW_none, errW_some] <;> rfl), by first | exact Grow.bl HB.out | exact HB.out⟩
 rw [if_neg c2] at H
 have c2b0 : decide (50 < (l0.length : Int)) = false := decide_eq_false c2
 have c2b1 : decide (50 < l0.length) = false := decide_eq_false (by omega)
 clear c2
 have H' := Aside0.mk H
 clear H
 go_enter Tryd.func31, Tryd.ntmps31
 go_wp2
 go_loopg [3] k (fun kq v3 w' => ∃ (x3_1 : Int), v3 = .int .i64 x3_1 ∧ Aside0 (spec_PolicyFault.l0 kq l0 x3_1 = some r) ∧ Aside0 (kq ≤ k) ∧ Aside0 (Below w.heap.size w w'))
 case atStart => exact ⟨(0), (by first | rfl | (simp; done) | (simp [*]; done)), H', ⟨Nat.le_refl _⟩, ⟨by first | exact Grow.bl HB.out | exact HB.out⟩⟩
 case round =>
  clear H'
  try clear c2
  try clear c2b0
  try clear c2b1
  try clear p2
  obtain ⟨x3_1, rfl, HA, HK1, HB⟩ := hrel
  cases gk with
  | zero => exact absurd HA.out (by simp [spec_PolicyFault.l0])
  | succ k1 =>
   have H := HA.out
   clear HA
   simp only [spec_PolicyFault.l0] at H
   by_cases c3 : x3_1 < (l0.length : Int)
   rotate_left
   ·
    rw [if_neg c3] at H
    have c3b0 : decide (x3_1 < (l0.length : Int)) = false := decide_eq_false c3
    clear c3
    obtain rfl := Option.some.inj H
    go_wp2
    go_ret
    exact ⟨by first | rfl | (simp [errW_none, errW_some] <;> rfl) | (simp [*, errW_none, errW_some] <;> rfl), by first | exact Grow.bl HB.out | exact HB.out⟩
   rw [if_pos c3] at H
   have c3b0 : decide (x3_1 < (l0.length : Int)) = true := decide_eq_true c3
   clear c3
   by_cases c4 : 0 ≤ x3_1
   rotate_left
   ·
    rw [if_neg c4] at H
    exact absurd H (by simp)
   rw [if_pos c4] at H
   have c4b0 : decide (0 ≤ x3_1) = true := decide_eq_true c4
   clear c4
   replace H := Option.bind_eq_some_iff.mp H
   obtain ⟨t129, A50, H⟩ := H
   replace H : (if t129 = true then (if (((rd_T58 l0 x3_1).f4).length : Int) > 10 then (some 1) else (spec_PolicyFault.l0 k1 l0 (wrap64 (x3_1 + 1)))) else (some 1)) = some r := H
   have A5 := Aside0.mk A50
   clear A50
   by_cases c6 : t129 = true
   rotate_left
   ·
    replace c6 := Bool.eq_false_iff.mpr c6
    subst c6
    have H1 : (some 1) = some r := by rw [if_neg (show ¬ (false = true) by decide)] at H; exact H
    clear H
    have H := H1
    clear H1
    obtain rfl := Option.some.inj H
    have p128 : 0 ≤ (x3_1 : Int) := of_decide_eq_true (by first | (with_reducible assumption) | assumption)
    have q128 : x3_1 < (l0.length : Int) := of_decide_eq_true (by first | (with_reducible assumption) | assumption)
    obtain ⟨ad128, A128_1, c128_1, A128_2, c128_2, A128_3, c128_3, A128_4, c128_4, e128, hx128_0, hx128_1, hx128_2, hx128_3, hx128_4, hl128_1, hi128_1, hl128_2, hi128_2, hl128_3, hi128_3, hl128_4, hi128_4⟩ := at_T58 HR0.out x3_1 p128 q128
    cases e128
    replace hx128_0 := Grow.bc HB.out hx128_0
    replace hx128_1 := Grow.bc HB.out hx128_1
    replace hx128_2 := Grow.bc HB.out hx128_2
    replace hx128_3 := Grow.bc HB.out hx128_3
    replace hx128_4 := Grow.bc HB.out hx128_4
    have HR128_1 := Aside0.mk hi128_1
    have HC128_1 := Aside0.mk hl128_1
    clear hi128_1 hl128_1
    have HR128_2 := Aside0.mk hi128_2
    have HC128_2 := Aside0.mk hl128_2
    clear hi128_2 hl128_2
    have HR128_3 := Aside0.mk hi128_3
    have HC128_3 := Aside0.mk hl128_3
    clear hi128_3 hl128_3
    have HR128_4 := Aside0.mk hi128_4
    have HC128_4 := Aside0.mk hl128_4
    clear hi128_4 hl128_4
    replace p128 := eq_true p128
    replace q128 := eq_true q128
    go_wp2_with (first | ((with_reducible refine gate_callee (f := 53) rfl ?_); refine goesL_ (some 17) rfl rfl Tryd.func53 (by kernel_rfl) rfl #[.agg #[.int .i64 ((rd_T58 l0 x3_1).f0), .slice A128_1 ((rd_T58 l0 x3_1).f1).length c128_1, .slice A128_2 ((rd_T58 l0 x3_1).f2).length c128_2, .slice A128_3 ((rd_T58 l0 x3_1).f3).length c128_3, .slice A128_4 ((rd_T58 l0 x3_1).f4).length c128_4]] rfl (by (try simp only [List.map_toArray, List.map_cons, List.map_nil]); first | done | rfl | (simp only [List.length_drop, List.length_take]; rfl)) ?_; (with_reducible refine (spec_l09Right.calls k1 ((rd_T58 l0 x3_1).f0) _ _ ((rd_T58 l0 x3_1).f1) _ _ ((rd_T58 l0 x3_1).f2) _ _ ((rd_T58 l0 x3_1).f3) _ _ ((rd_T58 l0 x3_1).f4) false _ ?side1 ?side2 ?side3 ?side4 ?side5 ?side6 ?side7 ?side8 A5.out).mono ?_); (case side1 => first | exact Grow.cb HR128_1.out HB.out | exact Kd.C_below HR128_1.out HB.out); (case side2 => exact HC128_1.out); (case side3 => first | exact Grow.cb HR128_2.out HB.out | exact Kd.C_below HR128_2.out HB.out); (case side4 => exact HC128_2.out); (case side5 => first | exact Grow.cb HR128_3.out HB.out | exact Kd.C_below HR128_3.out HB.out); (case side6 => exact HC128_3.out); (case side7 => first | exact Grow.cb HR128_4.out HB.out | exact Kd.C_below HR128_4.out HB.out); (case side8 => exact HC128_4.out); rintro e w10 ⟨rfl, hb⟩; refine ⟨_, rfl, ?_⟩; have n0_ := Aside0.mk (below_step (by first | exact Grow.bl HB.out | exact HB.out) hb); clear HB; have HB := n0_; clear n0_; (try clear hb); (try clear hb2); (try clear hk); (try clear hi)))
    go_ret
    exact ⟨by first | rfl | (simp [errW_none, errW_some] <;> rfl) | (simp [*, errW_none, errW_some] <;> rfl), by first | exact Grow.bl HB.out | exact HB.out⟩
   subst c6
   have H1 : (if (((rd_T58 l0 x3_1).f4).length : Int) > 10 then (some 1) else (spec_PolicyFault.l0 k1 l0 (wrap64 (x3_1 + 1)))) = some r := by rw [if_pos rfl] at H; exact H
   clear H
   have H := H1
   clear H1
   by_cases c7 : (((rd_T58 l0 x3_1).f4).length : Int) > 10
   ·
    rw [if_pos c7] at H
    have c7b0 : decide (10 < (((rd_T58 l0 x3_1).f4).length : Int)) = true := decide_eq_true c7
    have c7b1 : decide (10 < ((rd_T58 l0 x3_1).f4).length) = true := decide_eq_true (by omega)
    clear c7
    obtain rfl := Option.some.inj H
    have p128 : 0 ≤ (x3_1 : Int) := of_decide_eq_true (by first | (with_reducible assumption) | assumption)
    have q128 : x3_1 < (l0.length : Int) := of_decide_eq_true (by first | (with_reducible assumption) | assumption)
    obtain ⟨ad128, A128_1, c128_1, A128_2, c128_2, A128_3, c128_3, A128_4, c128_4, e128, hx128_0, hx128_1, hx128_2, hx128_3, hx128_4, hl128_1, hi128_1, hl128_2, hi128_2, hl128_3, hi128_3, hl128_4, hi128_4⟩ := at_T58 HR0.out x3_1 p128 q128
    cases e128
    replace hx128_0 := Grow.bc HB.out hx128_0
    replace hx128_1 := Grow.bc HB.out hx128_1
    replace hx128_2 := Grow.bc HB.out hx128_2
    replace hx128_3 := Grow.bc HB.out hx128_3
    replace hx128_4 := Grow.bc HB.out hx128_4
    have HR128_1 := Aside0.mk hi128_1
    have HC128_1 := Aside0.mk hl128_1
    clear hi128_1 hl128_1
    have HR128_2 := Aside0.mk hi128_2
    have HC128_2 := Aside0.mk hl128_2
    clear hi128_2 hl128_2
    have HR128_3 := Aside0.mk hi128_3
    have HC128_3 := Aside0.mk hl128_3
    clear hi128_3 hl128_3
    have HR128_4 := Aside0.mk hi128_4
    have HC128_4 := Aside0.mk hl128_4
    clear hi128_4 hl128_4
    replace p128 := eq_true p128
    replace q128 := eq_true q128
    go_wp2_with (first | ((with_reducible refine gate_callee (f := 53) rfl ?_); refine goesL_ (some 17) rfl rfl Tryd.func53 (by kernel_rfl) rfl #[.agg #[.int .i64 ((rd_T58 l0 x3_1).f0), .slice A128_1 ((rd_T58 l0 x3_1).f1).length c128_1, .slice A128_2 ((rd_T58 l0 x3_1).f2).length c128_2, .slice A128_3 ((rd_T58 l0 x3_1).f3).length c128_3, .slice A128_4 ((rd_T58 l0 x3_1).f4).length c128_4]] rfl (by (try simp only [List.map_toArray, List.map_cons, List.map_nil]); first | done | rfl | (simp only [List.length_drop, List.length_take]; rfl)) ?_; (with_reducible refine (spec_l09Right.calls k1 ((rd_T58 l0 x3_1).f0) _ _ ((rd_T58 l0 x3_1).f1) _ _ ((rd_T58 l0 x3_1).f2) _ _ ((rd_T58 l0 x3_1).f3) _ _ ((rd_T58 l0 x3_1).f4) true _ ?side1 ?side2 ?side3 ?side4 ?side5 ?side6 ?side7 ?side8 A5.out).mono ?_); (case side1 => first | exact Grow.cb HR128_1.out HB.out | exact Kd.C_below HR128_1.out HB.out); (case side2 => exact HC128_1.out); (case side3 => first | exact Grow.cb HR128_2.out HB.out | exact Kd.C_below HR128_2.out HB.out); (case side4 => exact HC128_2.out); (case side5 => first | exact Grow.cb HR128_3.out HB.out | exact Kd.C_below HR128_3.out HB.out); (case side6 => exact HC128_3.out); (case side7 => first | exact Grow.cb HR128_4.out HB.out | exact Kd.C_below HR128_4.out HB.out); (case side8 => exact HC128_4.out); rintro e w8 ⟨rfl, hb⟩; refine ⟨_, rfl, ?_⟩; have n0_ := Aside0.mk (below_step (by first | exact Grow.bl HB.out | exact HB.out) hb); clear HB; have HB := n0_; clear n0_; (try clear hb); (try clear hb2); (try clear hk); (try clear hi); have p130 : 0 ≤ (x3_1 : Int) := of_decide_eq_true (by first | (with_reducible assumption) | assumption); have q130 : x3_1 < (l0.length : Int) := of_decide_eq_true (by first | (with_reducible assumption) | assumption); obtain ⟨ad130, A130_1, c130_1, A130_2, c130_2, A130_3, c130_3, A130_4, c130_4, e130, hx130_0, hx130_1, hx130_2, hx130_3, hx130_4, hl130_1, hi130_1, hl130_2, hi130_2, hl130_3, hi130_3, hl130_4, hi130_4⟩ := at_T58 HR0.out x3_1 p130 q130; obtain rfl : ad128 = ad130 := (by injection e130); replace hx130_0 := Grow.bc HB.out hx130_0; replace hx130_1 := Grow.bc HB.out hx130_1; replace hx130_2 := Grow.bc HB.out hx130_2; replace hx130_3 := Grow.bc HB.out hx130_3; replace hx130_4 := Grow.bc HB.out hx130_4; have HR130_1 := Aside0.mk hi130_1; have HC130_1 := Aside0.mk hl130_1; clear hi130_1 hl130_1; have HR130_2 := Aside0.mk hi130_2; have HC130_2 := Aside0.mk hl130_2; clear hi130_2 hl130_2; have HR130_3 := Aside0.mk hi130_3; have HC130_3 := Aside0.mk hl130_3; clear hi130_3 hl130_3; have HR130_4 := Aside0.mk hi130_4; have HC130_4 := Aside0.mk hl130_4; clear hi130_4 hl130_4; replace p130 := eq_true p130; replace q130 := eq_true q130))
    go_ret
    exact ⟨by first | rfl | (simp [errW_none, errW_some] <;> rfl) | (simp [*, errW_none, errW_some] <;> rfl), by first | exact Grow.bl HB.out | exact HB.out⟩
   rw [if_neg c7] at H
   have c7b0 : decide (10 < (((rd_T58 l0 x3_1).f4).length : Int)) = false := decide_eq_false c7
   have c7b1 : decide (10 < ((rd_T58 l0 x3_1).f4).length) = false := decide_eq_false (by omega)
   clear c7
   have H' := Aside0.mk H
   clear H
   have p128 : 0 ≤ (x3_1 : Int) := of_decide_eq_true (by first | (with_reducible assumption) | assumption)
   have q128 : x3_1 < (l0.length : Int) := of_decide_eq_true (by first | (with_reducible assumption) | assumption)
   obtain ⟨ad128, A128_1, c128_1, A128_2, c128_2, A128_3, c128_3, A128_4, c128_4, e128, hx128_0, hx128_1, hx128_2, hx128_3, hx128_4, hl128_1, hi128_1, hl128_2, hi128_2, hl128_3, hi128_3, hl128_4, hi128_4⟩ := at_T58 HR0.out x3_1 p128 q128
   cases e128
   replace hx128_0 := Grow.bc HB.out hx128_0
   replace hx128_1 := Grow.bc HB.out hx128_1
   replace hx128_2 := Grow.bc HB.out hx128_2
   replace hx128_3 := Grow.bc HB.out hx128_3
   replace hx128_4 := Grow.bc HB.out hx128_4
   have HR128_1 := Aside0.mk hi128_1
   have HC128_1 := Aside0.mk hl128_1
   clear hi128_1 hl128_1
   have HR128_2 := Aside0.mk hi128_2
   have HC128_2 := Aside0.mk hl128_2
   clear hi128_2 hl128_2
   have HR128_3 := Aside0.mk hi128_3
   have HC128_3 := Aside0.mk hl128_3
   clear hi128_3 hl128_3
   have HR128_4 := Aside0.mk hi128_4
   have HC128_4 := Aside0.mk hl128_4
   clear hi128_4 hl128_4
   replace p128 := eq_true p128
   replace q128 := eq_true q128
   go_wp2_with (first | ((with_reducible refine gate_callee (f := 53) rfl ?_); refine goesL_ (some 17) rfl rfl Tryd.func53 (by kernel_rfl) rfl #[.agg #[.int .i64 ((rd_T58 l0 x3_1).f0), .slice A128_1 ((rd_T58 l0 x3_1).f1).length c128_1, .slice A128_2 ((rd_T58 l0 x3_1).f2).length c128_2, .slice A128_3 ((rd_T58 l0 x3_1).f3).length c128_3, .slice A128_4 ((rd_T58 l0 x3_1).f4).length c128_4]] rfl (by (try simp only [List.map_toArray, List.map_cons, List.map_nil]); first | done | rfl | (simp only [List.length_drop, List.length_take]; rfl)) ?_; (with_reducible refine (spec_l09Right.calls k1 ((rd_T58 l0 x3_1).f0) _ _ ((rd_T58 l0 x3_1).f1) _ _ ((rd_T58 l0 x3_1).f2) _ _ ((rd_T58 l0 x3_1).f3) _ _ ((rd_T58 l0 x3_1).f4) true _ ?side1 ?side2 ?side3 ?side4 ?side5 ?side6 ?side7 ?side8 A5.out).mono ?_); (case side1 => first | exact Grow.cb HR128_1.out HB.out | exact Kd.C_below HR128_1.out HB.out); (case side2 => exact HC128_1.out); (case side3 => first | exact Grow.cb HR128_2.out HB.out | exact Kd.C_below HR128_2.out HB.out); (case side4 => exact HC128_2.out); (case side5 => first | exact Grow.cb HR128_3.out HB.out | exact Kd.C_below HR128_3.out HB.out); (case side6 => exact HC128_3.out); (case side7 => first | exact Grow.cb HR128_4.out HB.out | exact Kd.C_below HR128_4.out HB.out); (case side8 => exact HC128_4.out); rintro e w9 ⟨rfl, hb⟩; refine ⟨_, rfl, ?_⟩; have n0_ := Aside0.mk (below_step (by first | exact Grow.bl HB.out | exact HB.out) hb); clear HB; have HB := n0_; clear n0_; (try clear hb); (try clear hb2); (try clear hk); (try clear hi); have p130 : 0 ≤ (x3_1 : Int) := of_decide_eq_true (by first | (with_reducible assumption) | assumption); have q130 : x3_1 < (l0.length : Int) := of_decide_eq_true (by first | (with_reducible assumption) | assumption); obtain ⟨ad130, A130_1, c130_1, A130_2, c130_2, A130_3, c130_3, A130_4, c130_4, e130, hx130_0, hx130_1, hx130_2, hx130_3, hx130_4, hl130_1, hi130_1, hl130_2, hi130_2, hl130_3, hi130_3, hl130_4, hi130_4⟩ := at_T58 HR0.out x3_1 p130 q130; obtain rfl : ad128 = ad130 := (by injection e130); replace hx130_0 := Grow.bc HB.out hx130_0; replace hx130_1 := Grow.bc HB.out hx130_1; replace hx130_2 := Grow.bc HB.out hx130_2; replace hx130_3 := Grow.bc HB.out hx130_3; replace hx130_4 := Grow.bc HB.out hx130_4; have HR130_1 := Aside0.mk hi130_1; have HC130_1 := Aside0.mk hl130_1; clear hi130_1 hl130_1; have HR130_2 := Aside0.mk hi130_2; have HC130_2 := Aside0.mk hl130_2; clear hi130_2 hl130_2; have HR130_3 := Aside0.mk hi130_3; have HC130_3 := Aside0.mk hl130_3; clear hi130_3 hl130_3; have HR130_4 := Aside0.mk hi130_4; have HC130_4 := Aside0.mk hl130_4; clear hi130_4 hl130_4; replace p130 := eq_true p130; replace q130 := eq_true q130))
   go_roundg k1
   case measure => have := HK1.out; omega
   case rel => exact ⟨(wrap64 (x3_1 + 1)), (by first | rfl | (simp; done) | (simp [*]; done)), H', ⟨by have := HK1.out; omega⟩, ⟨by first | exact Grow.bl HB.out | exact HB.out⟩⟩

/-! ### spec_l09Join: function 32 -/
def spec_l09Join.l0 : Nat → List ByteArray → ByteArray → Int → Option (ByteArray)
  | 0, _, _, _ => none
  | k + 1, x0, x3, x4 => if x4 < (x0.length : Int) then (if x4 > 0 then (if x3.size + 1 ≤ 9223372036854775807 then (if 0 ≤ x4 then (if (x3 ++ (⟨#[44]⟩ : ByteArray)).size + (rdOf ByteArray.empty x0 x4).size ≤ 9223372036854775807 then (spec_l09Join.l0 k x0 ((x3 ++ (⟨#[44]⟩ : ByteArray)) ++ (rdOf ByteArray.empty x0 x4)) (wrap64 (x4 + 1))) else (none)) else (none)) else (none)) else (if 0 ≤ x4 then (if x3.size + (rdOf ByteArray.empty x0 x4).size ≤ 9223372036854775807 then (spec_l09Join.l0 k x0 (x3 ++ (rdOf ByteArray.empty x0 x4)) (wrap64 (x4 + 1))) else (none)) else (none))) else (some x3)
def spec_l09Join.f (k : Nat) (l0 : List ByteArray) : Option (ByteArray) := spec_l09Join.l0 k l0 (⟨#[]⟩ : ByteArray) 0
theorem spec_l09Join.mono_l : ∀ k, (∀ y0 y1 y2, LeO (spec_l09Join.l0 k y0 y1 y2) (spec_l09Join.l0 (k + 1) y0 y1 y2))
  | 0 => fun _ _ _ r h => by simp [spec_l09Join.l0] at h
  | k + 1 => by
    have ih0 := spec_l09Join.mono_l k
    · intro y0 y1 y2
      unfold spec_l09Join.l0
      repeat' first
      | (with_reducible exact ih0 _ _ _)
      | (with_reducible exact LeO.refl _)
      | (with_reducible exact LeO.none _)
      | (with_reducible refine LeO.ite ?_ ?_)
      | (with_reducible refine LeO.bind ?_ (fun _ => ?_))
      | exact ih0 _ _ _
      | exact LeO.none _
      | refine LeO.ite ?_ ?_
      | refine LeO.bind ?_ (fun _ => ?_)
theorem spec_l09Join.mono : ∀ a0 k, LeO (spec_l09Join.f k a0) (spec_l09Join.f (k + 1) a0) := by
  intro a0 k
  have ih0 := spec_l09Join.mono_l k
  unfold spec_l09Join.f
  repeat' first
      | (with_reducible exact ih0 _ _ _)
      | (with_reducible exact LeO.refl _)
      | (with_reducible exact LeO.none _)
      | (with_reducible refine LeO.ite ?_ ?_)
      | (with_reducible refine LeO.bind ?_ (fun _ => ?_))
      | exact ih0 _ _ _
      | exact LeO.none _
      | refine LeO.ite ?_ ?_
      | refine LeO.bind ?_ (fun _ => ?_)
set_option maxHeartbeats 8000000 in
set_option maxRecDepth 100000 in
theorem spec_l09Join.calls (k : Nat) (A0 : Option Addr) (c0 : Nat) (l0 : List ByteArray) (r : ByteArray) (w : World) (hr0 : Kd.C Kd.string w A0 l0.length l0) (hc0 : l0.length ≤ c0) (h : spec_l09Join.f k l0 = some r) :
  Calls Tryd.prog 32 #[.slice A0 l0.length c0] w fun e w' => e = .returned (.string r) ∧ Drawn0 w w' := by
 have HR0 := Aside0.mk hr0
 have HC0 := Aside0.mk hc0
 clear hr0 hc0
 have H : (spec_l09Join.l0 k l0 (⟨#[]⟩ : ByteArray) 0) = some r := h
 clear h
 have H' := Aside0.mk H
 clear H
 go_enter Tryd.func32, Tryd.ntmps32
 go_wp2
 go_loopg [3, 4] k (fun kq v3 v4 w' => ∃ (x3_1 : ByteArray) (x4_1 : Int), v3 = .string x3_1 ∧ v4 = .int .i64 x4_1 ∧ Aside0 (spec_l09Join.l0 kq l0 x3_1 x4_1 = some r) ∧ Aside0 (kq ≤ k) ∧ Drawn0 w w')
 case atStart => exact ⟨((⟨#[]⟩ : ByteArray)), (0), (by first | rfl | (simp; done) | (simp [*]; done)), (by first | rfl | (simp; done) | (simp [*]; done)), H', ⟨Nat.le_refl _⟩, by repeat (first | exact Drawn0.refl _ | apply Drawn0.step)⟩
 case round =>
  clear H'
  obtain ⟨x3_1, x4_1, rfl, rfl, HA, HK1, ⟨m1, rfl⟩⟩ := hrel
  cases gk with
  | zero => exact absurd HA.out (by simp [spec_l09Join.l0])
  | succ k1 =>
   have H := HA.out
   clear HA
   simp only [spec_l09Join.l0] at H
   by_cases c2 : x4_1 < (l0.length : Int)
   rotate_left
   ·
    rw [if_neg c2] at H
    have c2b0 : decide (x4_1 < (l0.length : Int)) = false := decide_eq_false c2
    clear c2
    obtain rfl := Option.some.inj H
    go_wp2
    go_ret
    exact ⟨by first | rfl | (simp; done) | (simp [*]; done), by repeat (first | exact Drawn0.refl _ | apply Drawn0.step)⟩
   rw [if_pos c2] at H
   have c2b0 : decide (x4_1 < (l0.length : Int)) = true := decide_eq_true c2
   clear c2
   by_cases c3 : x4_1 > 0
   rotate_left
   ·
    rw [if_neg c3] at H
    have c3b0 : decide (0 < x4_1) = false := decide_eq_false c3
    clear c3
    by_cases c7 : 0 ≤ x4_1
    rotate_left
    ·
     rw [if_neg c7] at H
     exact absurd H (by simp)
    rw [if_pos c7] at H
    have c7b0 : decide (0 ≤ x4_1) = true := decide_eq_true c7
    clear c7
    by_cases c8 : x3_1.size + (rdOf ByteArray.empty l0 x4_1).size ≤ 9223372036854775807
    rotate_left
    ·
     rw [if_neg c8] at H
     exact absurd H (by simp)
    rw [if_pos c8] at H
    have c8b0 := eq_true c8
    have c8b1 : decide (x3_1.size + (rdOf ByteArray.empty l0 x4_1).size ≤ 9223372036854775807) = true := decide_eq_true c8
    try have c8b2 : (9223372036854775807 < x3_1.size + (rdOf ByteArray.empty l0 x4_1).size) = False := eq_false (Nat.not_lt.2 c8)
    have H' := Aside0.mk H
    clear H
    have p132 : 0 ≤ (x4_1 : Int) := of_decide_eq_true (by first | (with_reducible assumption) | assumption)
    have q132 : x4_1 < (l0.length : Int) := of_decide_eq_true (by first | (with_reducible assumption) | assumption)
    obtain ⟨ad132, e132, hx132_0⟩ := Kd.at_string HR0.out x4_1 p132 q132
    cases e132
    replace p132 := eq_true p132
    replace q132 := eq_true q132
    go_wp2
    go_roundg k1
    case measure => have := HK1.out; omega
    case rel => exact ⟨(x3_1 ++ (rdOf ByteArray.empty l0 x4_1)), (wrap64 (x4_1 + 1)), (by first | rfl | (simp; done) | (simp [*]; done)), (by first | rfl | (simp; done) | (simp [*]; done)), H', ⟨by have := HK1.out; omega⟩, by repeat (first | exact Drawn0.refl _ | apply Drawn0.step)⟩
   rw [if_pos c3] at H
   have c3b0 : decide (0 < x4_1) = true := decide_eq_true c3
   clear c3
   by_cases c4 : x3_1.size + 1 ≤ 9223372036854775807
   rotate_left
   ·
    rw [if_neg c4] at H
    exact absurd H (by simp)
   rw [if_pos c4] at H
   have c4b0 := eq_true c4
   have c4b1 : decide (x3_1.size + 1 ≤ 9223372036854775807) = true := decide_eq_true c4
   try have c4b2 : (9223372036854775807 < x3_1.size + 1) = False := eq_false (Nat.not_lt.2 c4)
   by_cases c5 : 0 ≤ x4_1
   rotate_left
   ·
    rw [if_neg c5] at H
    exact absurd H (by simp)
   rw [if_pos c5] at H
   have c5b0 : decide (0 ≤ x4_1) = true := decide_eq_true c5
   clear c5
   by_cases c6 : (x3_1 ++ (⟨#[44]⟩ : ByteArray)).size + (rdOf ByteArray.empty l0 x4_1).size ≤ 9223372036854775807
   rotate_left
   ·
    rw [if_neg c6] at H
    exact absurd H (by simp)
   rw [if_pos c6] at H
   have c6b0 := eq_true c6
   have c6z := c6
   simp only [ByteArray.size_append, show (⟨#[44]⟩ : ByteArray).size = 1 from rfl] at c6z
   have c6z0 := eq_true c6z
   have c6z1 := decide_eq_true c6z
   try have c6z2 := eq_false (Nat.not_lt.2 c6z)
   have c6b1 : decide ((x3_1 ++ (⟨#[44]⟩ : ByteArray)).size + (rdOf ByteArray.empty l0 x4_1).size ≤ 9223372036854775807) = true := decide_eq_true c6
   try have c6b2 : (9223372036854775807 < (x3_1 ++ (⟨#[44]⟩ : ByteArray)).size + (rdOf ByteArray.empty l0 x4_1).size) = False := eq_false (Nat.not_lt.2 c6)
   have H' := Aside0.mk H
   clear H
   have p131 : 0 ≤ (x4_1 : Int) := of_decide_eq_true (by first | (with_reducible assumption) | assumption)
   have q131 : x4_1 < (l0.length : Int) := of_decide_eq_true (by first | (with_reducible assumption) | assumption)
   obtain ⟨ad131, e131, hx131_0⟩ := Kd.at_string HR0.out x4_1 p131 q131
   cases e131
   replace p131 := eq_true p131
   replace q131 := eq_true q131
   go_wp2
   go_roundg k1
   case measure => have := HK1.out; omega
   case rel => exact ⟨((x3_1 ++ (⟨#[44]⟩ : ByteArray)) ++ (rdOf ByteArray.empty l0 x4_1)), (wrap64 (x4_1 + 1)), (by first | rfl | (simp; done) | (simp [*]; done)), (by first | rfl | (simp; done) | (simp [*]; done)), H', ⟨by have := HK1.out; omega⟩, by repeat (first | exact Drawn0.refl _ | apply Drawn0.step)⟩

end Go.Proofs.YtepnjhmdcaolkaaDoor.QFnExactWritePolicy
