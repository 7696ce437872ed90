-- A text of this session, printed by a program of its own (wip/tools: xpatch.py, xprint.sh, mkq.py). No condition.
import Derived.Test.YteflpfkfmohenaaQFnExactRepairPlanx0
import Derived.Test.YteflpfkfmohenaaQFnExactRepairPlanx7
import Derived.Test.YteflpfkfmohenaaQFnExactRepairPlanx8
import Derived.Test.YteflpfkfmohenaaQFnExactRepairPlanx9
import Derived.Test.YteflpfkfmohenaaQFnExactRepairPlanx10
namespace Go.Proofs.Yteflpfkfmohenaa.QFnExactRepairPlan
open Go.RowKit Go.Proofs.YteflpfkfmohenaaW.PrintWords Go.Proofs.YteflpfkfmohenaaW.PrintLast Go.Proofs.YteflpfkfmohenaaW.PrintMore
attribute [local go_sem] max2_int min2_int max_two min_two max_three min_three max_four min_four   -- for this text's walks alone
set_option linter.unusedVariables false
set_option linter.unusedSimpArgs false

/-! ### impl_plant_planOf: function 20 -/
def impl_plant_planOf.l0 : Nat → Int → List Bool → Int → List Int → Bool → List Int → Int → Int → Option (List Int × Bool × Bool)
  | 0, _, _, _, _, _, _, _, _ => none
  | k + 1, x0, x1, x2, x9, x10, x21, x22, x23 => if x23 < x22 then (if 0 ≤ x23 then (if x23 < (x21.length : Int) then (if x10 = true then (if 0 ≤ (rd x21 x23) then (if (rd x21 x23) < (x1.length : Int) then (impl_plant_planOf.l0 k x0 x1 x2 x9 (rdOf false x1 (rd x21 x23)) x21 x22 (wrap64 (x23 + 1))) else (none)) else (none)) else (impl_plant_planOf.l0 k x0 x1 x2 x9 false x21 x22 (wrap64 (x23 + 1)))) else (none)) else (none)) else (if x10 = true then (some (x9, true, true)) else ((some (([] : List Bool) : List Bool)).bind fun y271 => (if y271.length + x1.length < 140737488355328 then ((some (y271 ++ x1 : List Bool)).bind fun y274 => (if 0 ≤ x2 then (if x2 < (y274.length : Int) then ((impl_plant_basis.f k x0 (y274.set (x2 : Int).toNat false)).bind fun t278 => ((plantK.f x0).bind fun t281 => (some (t278, false, ((t278.length : Int) == t281))))) else (none)) else (none))) else (none))))
def impl_plant_planOf.f (k : Nat) (a0 : Int) (l1 : List Bool) (a2 : Int) : Option (List Int × Bool × Bool) := (impl_plant_groupOf.f k a0 a2).bind fun t266 => (impl_plant_planOf.l0 k a0 l1 a2 t266 (decide ((t266.length : Int) > 0)) t266 (t266.length : Int) 0)
theorem impl_plant_planOf.mono_l : ∀ k, (∀ y0 y1 y2 y3 y4 y5 y6 y7, LeO (impl_plant_planOf.l0 k y0 y1 y2 y3 y4 y5 y6 y7) (impl_plant_planOf.l0 (k + 1) y0 y1 y2 y3 y4 y5 y6 y7))
  | 0 => fun _ _ _ _ _ _ _ _ r h => by simp [impl_plant_planOf.l0] at h
  | k + 1 => by
    have ih0 := impl_plant_planOf.mono_l k
    · intro y0 y1 y2 y3 y4 y5 y6 y7
      unfold impl_plant_planOf.l0
      repeat' first
      | (with_reducible exact ih0 _ _ _ _ _ _ _ _)
      | (with_reducible exact impl_plant_basis.mono _ _ _)
      | (with_reducible exact impl_plant_groupOf.mono _ _ _)
      | (with_reducible exact LeO.refl _)
      | (with_reducible exact LeO.none _)
      | (with_reducible refine LeO.ite ?_ ?_)
      | (with_reducible refine LeO.bind ?_ (fun _ => ?_))
      | exact ih0 _ _ _ _ _ _ _ _
      | exact impl_plant_basis.mono _ _ _
      | exact impl_plant_groupOf.mono _ _ _
      | exact LeO.none _
      | refine LeO.ite ?_ ?_
      | refine LeO.bind ?_ (fun _ => ?_)
theorem impl_plant_planOf.mono : ∀ a0 a1 a2 k, LeO (impl_plant_planOf.f k a0 a1 a2) (impl_plant_planOf.f (k + 1) a0 a1 a2) := by
  intro a0 a1 a2 k
  have ih0 := impl_plant_planOf.mono_l k
  unfold impl_plant_planOf.f
  repeat' first
      | (with_reducible exact ih0 _ _ _ _ _ _ _ _)
      | (with_reducible exact impl_plant_basis.mono _ _ _)
      | (with_reducible exact impl_plant_groupOf.mono _ _ _)
      | (with_reducible exact LeO.refl _)
      | (with_reducible exact LeO.none _)
      | (with_reducible refine LeO.ite ?_ ?_)
      | (with_reducible refine LeO.bind ?_ (fun _ => ?_))
      | exact ih0 _ _ _ _ _ _ _ _
      | exact impl_plant_basis.mono _ _ _
      | exact impl_plant_groupOf.mono _ _ _
      | exact LeO.none _
      | refine LeO.ite ?_ ?_
      | refine LeO.bind ?_ (fun _ => ?_)
set_option maxHeartbeats 8000000 in
set_option maxRecDepth 100000 in
theorem impl_plant_planOf.calls (k : Nat) {a0 : Int} (gP : Nat) (A1 : Option Addr) (c1 : Nat) (l1 : List Bool) (a2 : Int) (r1 : List Int) (r2 : Bool) (r3 : Bool) (w : World) (hr1 : Kd.C Kd.bool w A1 l1.length l1) (hc1 : l1.length ≤ c1) (h : impl_plant_planOf.f k a0 l1 a2 = some (r1, r2, r3)) (hP : PlantAt w gP a0) :
  Calls Try.prog 20 #[.pointer (some ⟨gP, 0, none⟩), .slice A1 l1.length c1, .int .i64 a2] w fun e w' => ∃ v0_ : Value, e = .returned (.tuple #[v0_, .bool r2, .bool r3]) ∧ Kd.R (Kd.int .i64) 3 w' w.heap.size (fun _ => True) v0_ r1 ∧ Below w.heap.size w w' := by
 have hu55 := Try.underlying55
 have hu29 := Try.underlying29
 have HP := Aside0.mk hP
 clear hP
 have HR1 := Aside0.mk hr1
 have HC1 := Aside0.mk hc1
 clear hr1 hc1
 have HB := Aside0.mk (Below.refl w.heap.size w)
 have H : ((impl_plant_groupOf.f k a0 a2).bind fun t266 => (impl_plant_planOf.l0 k a0 l1 a2 t266 (decide ((t266.length : Int) > 0)) t266 (t266.length : Int) 0)) = some (r1, r2, r3) := h
 clear h
 replace H := Option.bind_eq_some_iff.mp H
 obtain ⟨t266, A40, H⟩ := H
 replace H : (impl_plant_planOf.l0 k a0 l1 a2 t266 (decide ((t266.length : Int) > 0)) t266 (t266.length : Int) 0) = some (r1, r2, r3) := H
 have A4 := Aside0.mk A40
 clear A40
 have H' := Aside0.mk H
 clear H
 go_enter Try.func20, Try.ntmps20
 go_wp2_with (first | (go_at_call 28; (with_reducible refine (impl_plant_groupOf.calls k gP a2 t266 _ A4.out (HP.out.below (by first | exact Grow.bl HB.out | exact HB.out))).mono ?_); rintro e w5 ⟨v267, rfl, ho0, hb⟩; have n0_ := Aside0.mk (Kd.R_lower ho0 (below_size (by first | exact Grow.bl HB.out | exact HB.out))); have n1_ := Aside0.mk (below_step (by first | exact Grow.bl HB.out | exact HB.out) hb); clear HB; have HO268 := n0_; have HB := n1_; clear n0_ n1_; (try clear hb); (try clear hb2); (try clear hk); (try clear hi); (try clear ho0); obtain ⟨Ao6, co6, eo6⟩ := Kd.R_slice HO268.out; subst eo6))
 repeat (go_quiet (first | (go_at_call 28; (with_reducible refine (impl_plant_groupOf.calls k gP a2 t266 _ A4.out (HP.out.below (by first | exact Grow.bl HB.out | exact HB.out))).mono ?_); rintro e w5 ⟨v267, rfl, ho0, hb⟩; have n0_ := Aside0.mk (Kd.R_lower ho0 (below_size (by first | exact Grow.bl HB.out | exact HB.out))); have n1_ := Aside0.mk (below_step (by first | exact Grow.bl HB.out | exact HB.out) hb); clear HB; have HO268 := n0_; have HB := n1_; clear n0_ n1_; (try clear hb); (try clear hb2); (try clear hk); (try clear hi); (try clear ho0); obtain ⟨Ao6, co6, eo6⟩ := Kd.R_slice HO268.out; subst eo6)); try go_wp2_with (first | (go_at_call 28; (with_reducible refine (impl_plant_groupOf.calls k gP a2 t266 _ A4.out (HP.out.below (by first | exact Grow.bl HB.out | exact HB.out))).mono ?_); rintro e w5 ⟨v267, rfl, ho0, hb⟩; have n0_ := Aside0.mk (Kd.R_lower ho0 (below_size (by first | exact Grow.bl HB.out | exact HB.out))); have n1_ := Aside0.mk (below_step (by first | exact Grow.bl HB.out | exact HB.out) hb); clear HB; have HO268 := n0_; have HB := n1_; clear n0_ n1_; (try clear hb); (try clear hb2); (try clear hk); (try clear hi); (try clear ho0); obtain ⟨Ao6, co6, eo6⟩ := Kd.R_slice HO268.out; subst eo6)))
 go_loopg [10, 23] k (fun kq v10 v23 w' => ∃ (x10_1 : Bool) (x23_1 : Int), v10 = .bool x10_1 ∧ v23 = .int .i64 x23_1 ∧ Aside0 (impl_plant_planOf.l0 kq a0 l1 a2 t266 x10_1 t266 (t266.length : Int) x23_1 = some (r1, r2, r3)) ∧ Aside0 (kq ≤ k) ∧ Aside0 (Kd.R (Kd.int .i64) 3 w' w.heap.size (fun _ => True) (.slice Ao6 t266.length co6) t266) ∧ Aside0 (Kd.R (Kd.int .i64) 3 w' w.heap.size (fun _ => True) (.slice Ao6 t266.length co6) t266) ∧ Aside0 (Below w.heap.size w w'))
 case atStart => exact ⟨(decide ((t266.length : Int) > 0)), (0), (by first | rfl | (simp; done) | (simp [*]; done)), (by first | rfl | (simp; done) | (simp [*]; done)), H', ⟨Nat.le_refl _⟩, ⟨by first | exact Grow.rg HO268.out | exact HO268.out⟩, ⟨by first | exact Grow.rg HO268.out | exact HO268.out⟩, ⟨by first | exact Grow.bl HB.out | exact HB.out⟩⟩
 case round =>
  clear H'
  try clear c1
  try clear c2
  try clear p2
  obtain ⟨x10_1, x23_1, rfl, rfl, HA, HK1, HO_9, HO_21, HB⟩ := hrel
  cases gk with
  | zero => exact absurd HA.out (by simp [impl_plant_planOf.l0])
  | succ k1 =>
   have H := HA.out
   clear HA
   simp only [impl_plant_planOf.l0] at H
   by_cases c7 : x23_1 < (t266.length : Int)
   ·
    rw [if_pos c7] at H
    have c7b0 : decide (x23_1 < (t266.length : Int)) = true := decide_eq_true c7
    clear c7
    by_cases c8 : 0 ≤ x23_1
    rotate_left
    ·
     rw [if_neg c8] at H
     exact absurd H (by simp)
    rw [if_pos c8] at H
    have c8b0 : decide (0 ≤ x23_1) = true := decide_eq_true c8
    clear c8
    by_cases c9 : x23_1 < (t266.length : Int)
    rotate_left
    ·
     exact absurd (of_decide_eq_true c7b0) c9
    rw [if_pos c9] at H
    have c9b0 : decide (x23_1 < (t266.length : Int)) = true := decide_eq_true c9
    clear c9
    by_cases c10 : x10_1 = true
    rotate_left
    ·
     replace c10 := Bool.eq_false_iff.mpr c10
     subst c10
     have H1 : (impl_plant_planOf.l0 k1 a0 l1 a2 t266 false t266 (t266.length : Int) (wrap64 (x23_1 + 1))) = some (r1, r2, r3) := by rw [if_neg (show ¬ (false = true) by decide)] at H; exact H
     clear H
     have H := H1
     clear H1
     have H' := Aside0.mk H
     clear H
     have p269 : 0 ≤ (x23_1 : Int) := of_decide_eq_true (by first | (with_reducible assumption) | assumption)
     have q269 : x23_1 < (t266.length : Int) := of_decide_eq_true (by first | (with_reducible assumption) | assumption)
     obtain ⟨ad269, e269, hx269_0⟩ := Kd.at_int (Kd.R_reads' HO_21.out).2.2 x23_1 p269 q269
     cases e269
     replace p269 := eq_true p269
     replace q269 := eq_true q269
     go_wp2
     repeat (go_quiet (fail); try go_wp2)
     go_roundg k1
     case measure => have := HK1.out; omega
     case rel => exact ⟨(false), (wrap64 (x23_1 + 1)), (by first | rfl | (simp; done) | (simp [*]; done)), (by first | rfl | (simp; done) | (simp [*]; done)), H', ⟨by have := HK1.out; omega⟩, ⟨by first | exact Grow.rg HO_9.out | exact HO_9.out⟩, ⟨by first | exact Grow.rg HO_21.out | exact HO_21.out⟩, ⟨by first | exact Grow.bl HB.out | exact HB.out⟩⟩
    subst c10
    have H1 : (if 0 ≤ (rd t266 x23_1) then (if (rd t266 x23_1) < (l1.length : Int) then (impl_plant_planOf.l0 k1 a0 l1 a2 t266 (rdOf false l1 (rd t266 x23_1)) t266 (t266.length : Int) (wrap64 (x23_1 + 1))) else (none)) else (none)) = some (r1, r2, r3) := by rw [if_pos rfl] at H; exact H
    clear H
    have H := H1
    clear H1
    by_cases c11 : 0 ≤ (rd t266 x23_1)
    rotate_left
    ·
     rw [if_neg c11] at H
     exact absurd H (by simp)
    rw [if_pos c11] at H
    have c11b0 : decide (0 ≤ (rd t266 x23_1)) = true := decide_eq_true c11
    clear c11
    by_cases c12 : (rd t266 x23_1) < (l1.length : Int)
    rotate_left
    ·
     rw [if_neg c12] at H
     exact absurd H (by simp)
    rw [if_pos c12] at H
    have c12b0 : decide ((rd t266 x23_1) < (l1.length : Int)) = true := decide_eq_true c12
    clear c12
    have H' := Aside0.mk H
    clear H
    have p269 : 0 ≤ (x23_1 : Int) := of_decide_eq_true (by first | (with_reducible assumption) | assumption)
    have q269 : x23_1 < (t266.length : Int) := of_decide_eq_true (by first | (with_reducible assumption) | assumption)
    obtain ⟨ad269, e269, hx269_0⟩ := Kd.at_int (Kd.R_reads' HO_21.out).2.2 x23_1 p269 q269
    cases e269
    replace p269 := eq_true p269
    replace q269 := eq_true q269
    have p270 : 0 ≤ ((rd t266 x23_1) : Int) := of_decide_eq_true (by first | (with_reducible assumption) | assumption)
    have q270 : (rd t266 x23_1) < (l1.length : Int) := of_decide_eq_true (by first | (with_reducible assumption) | assumption)
    obtain ⟨ad270, e270, hx270_0⟩ := Kd.at_bool HR1.out (rd t266 x23_1) p270 q270
    cases e270
    replace hx270_0 := Grow.bc HB.out hx270_0
    replace p270 := eq_true p270
    replace q270 := eq_true q270
    go_wp2
    repeat (go_quiet (fail); try go_wp2)
    go_roundg k1
    case measure => have := HK1.out; omega
    case rel => exact ⟨(rdOf false l1 (rd t266 x23_1)), (wrap64 (x23_1 + 1)), (by first | rfl | (simp; done) | (simp [*]; done)), (by first | rfl | (simp; done) | (simp [*]; done)), H', ⟨by have := HK1.out; omega⟩, ⟨by first | exact Grow.rg HO_9.out | exact HO_9.out⟩, ⟨by first | exact Grow.rg HO_21.out | exact HO_21.out⟩, ⟨by first | exact Grow.bl HB.out | exact HB.out⟩⟩
   rw [if_neg c7] at H
   have c7b0 : decide (x23_1 < (t266.length : Int)) = false := decide_eq_false c7
   clear c7
   by_cases c13 : x10_1 = true
   ·
    subst c13
    have H1 : (some (t266, true, true)) = some (r1, r2, r3) := by rw [if_pos rfl] at H; exact H
    clear H
    have H := H1
    clear H1
    simp only [Option.some.injEq, Prod.mk.injEq] at H
    obtain ⟨rfl, rfl, rfl⟩ := H
    go_wp2
    repeat (go_quiet (fail); try go_wp2)
    go_ret3
    exact ⟨_, by first | rfl | (simp [errW_none, errW_some] <;> rfl) | (simp [*, errW_none, errW_some] <;> rfl), by (with_reducible repeat (first | apply Kd.R_alloc | apply Kd.R_drewN | apply Kd.R_drew)); exact HO_9.out, by first | exact Grow.bl HB.out | exact HB.out⟩
   replace c13 := Bool.eq_false_iff.mpr c13
   subst c13
   have H1 : ((some (([] : List Bool) : List Bool)).bind fun y271 => (if y271.length + l1.length < 140737488355328 then ((some (y271 ++ l1 : List Bool)).bind fun y274 => (if 0 ≤ a2 then (if a2 < (y274.length : Int) then ((impl_plant_basis.f k1 a0 (y274.set (a2 : Int).toNat false)).bind fun t278 => ((plantK.f a0).bind fun t281 => (some (t278, false, ((t278.length : Int) == t281))))) else (none)) else (none))) else (none))) = some (r1, r2, r3) := by rw [if_neg (show ¬ (false = true) by decide)] at H; exact H
   clear H
   have H := H1
   clear H1
   obtain ⟨y271, hy271⟩ : ∃ y_ : List Bool, y_ = (([] : List Bool)) := ⟨_, rfl⟩
   replace H : (if y271.length + l1.length < 140737488355328 then ((some (y271 ++ l1 : List Bool)).bind fun y274 => (if 0 ≤ a2 then (if a2 < (y274.length : Int) then ((impl_plant_basis.f k1 a0 (y274.set (a2 : Int).toNat false)).bind fun t278 => ((plantK.f a0).bind fun t281 => (some (t278, false, ((t278.length : Int) == t281))))) else (none)) else (none))) else (none)) = some (r1, r2, r3) := by first | (rw [hy271]; with_reducible exact H) | (have H2_ := (Option.bind_some _ _).symm.trans H; rw [hy271]; with_reducible exact H2_) | (have H2_ := (Option.bind_some _ _).symm.trans H; with_reducible exact H2_) | with_reducible exact H | (rw [hy271]; exact H) | exact H
   have Ny271 := Aside0.mk hy271
   clear hy271
   by_cases c14 : y271.length + l1.length < 140737488355328
   rotate_left
   ·
    rw [if_neg c14] at H
    exact absurd H (by simp)
   rw [if_pos c14] at H
   have LMc14 := Aside0.mk c14
   clear c14
   obtain ⟨y274, hy274⟩ : ∃ y_ : List Bool, y_ = (y271 ++ l1) := ⟨_, rfl⟩
   replace H : (if 0 ≤ a2 then (if a2 < (y274.length : Int) then ((impl_plant_basis.f k1 a0 (y274.set (a2 : Int).toNat false)).bind fun t278 => ((plantK.f a0).bind fun t281 => (some (t278, false, ((t278.length : Int) == t281))))) else (none)) else (none)) = some (r1, r2, r3) := by first | (rw [hy274]; with_reducible exact H) | (have H2_ := (Option.bind_some _ _).symm.trans H; rw [hy274]; with_reducible exact H2_) | (have H2_ := (Option.bind_some _ _).symm.trans H; with_reducible exact H2_) | with_reducible exact H | (rw [hy274]; exact H) | exact H
   have Ny274 := Aside0.mk hy274
   clear hy274
   by_cases c15 : 0 ≤ a2
   rotate_left
   ·
    rw [if_neg c15] at H
    exact absurd H (by simp)
   rw [if_pos c15] at H
   have c15b0 : decide (0 ≤ a2) = true := decide_eq_true c15
   clear c15
   by_cases c16 : a2 < (y274.length : Int)
   rotate_left
   ·
    rw [if_neg c16] at H
    exact absurd H (by simp)
   rw [if_pos c16] at H
   have c16b0 : decide (a2 < (y274.length : Int)) = true := decide_eq_true c16
   clear c16
   obtain ⟨y277, hy277⟩ : ∃ y_ : List Bool, y_ = (y274.set (a2 : Int).toNat false) := ⟨_, rfl⟩
   replace H : ((impl_plant_basis.f k1 a0 y277).bind fun t278 => ((plantK.f a0).bind fun t281 => (some (t278, false, ((t278.length : Int) == t281))))) = some (r1, r2, r3) := by first | (rw [hy277]; with_reducible exact H) | (have H2_ := (Option.bind_some _ _).symm.trans H; rw [hy277]; with_reducible exact H2_) | (have H2_ := (Option.bind_some _ _).symm.trans H; with_reducible exact H2_) | with_reducible exact H | (rw [hy277]; exact H) | exact H
   have Ny277 := Aside0.mk hy277
   clear hy277
   replace H := Option.bind_eq_some_iff.mp H
   obtain ⟨t278, A180, H⟩ := H
   replace H : ((plantK.f a0).bind fun t281 => (some (t278, false, ((t278.length : Int) == t281)))) = some (r1, r2, r3) := H
   have A18 := Aside0.mk A180
   clear A180
   replace H := Option.bind_eq_some_iff.mp H
   obtain ⟨t281, A190, H⟩ := H
   replace H : (some (t278, false, ((t278.length : Int) == t281))) = some (r1, r2, r3) := H
   have A19 := Aside0.mk A190
   clear A190
   have hk_t281 := plant_cell (F := plantK.f a0) HP.out.at_.k A19.out rfl
   simp only [Option.some.injEq, Prod.mk.injEq] at H
   obtain ⟨rfl, rfl, rfl⟩ := H
   go_wp2_with (first | ((with_reducible refine gate_dst (N := 37) rfl ?_); refine Kd.R_lit Kd.bool _ 4 ?hg (N := 37) ?hd (xs := ([] : List Bool)) (inner := []) (ok := fun _ => True) (okp := fun _ => True) ?hr ?hp (fun _ hk => hk) trivial (Below.refl _ _) (Nat.le_refl _) (by simp) ?_; (case hd => rfl); (case hg => rfl); (case hr => first | (go_simp; done) | (go_simp; rfl)); (case hp => exact (Reps.none _ _)); intro v272 w20 ho21 hb hg_ hnew_; clear hg_ hnew_; (first | rw [← Ny271.out] at ho21 | (simp only [Int.reduceToNat] at ho21; rw [← Ny271.out] at ho21)); have n0_ := Aside0.mk (Kd.R_below (by first | exact Grow.rg HO_9.out | exact HO_9.out) hb); have n1_ := Aside0.mk (Kd.R_below (by first | exact Grow.rg HO_21.out | exact HO_21.out) hb); have n2_ := Aside0.mk (Kd.R_lower ho21 (below_size (by first | exact Grow.bl HB.out | exact HB.out))); have n3_ := Aside0.mk (below_step (by first | exact Grow.bl HB.out | exact HB.out) hb); clear HO_9; clear HO_21; clear HB; have HO_9 := n0_; have HO_21 := n1_; have HO273 := n2_; have HB := n3_; clear n0_ n1_ n2_ n3_; clear hb ho21) | ((with_reducible refine gate_builtin (b := .append) (xs := #[.tmp 37, .tmp 38]) rfl ?_); at_builtin; refine Kd.R_append_rows Kd.bool (w0 := w) w.heap.size rfl (.tmp 37) (.tmp 38) 24 4 (.bool false) 1 rfl Try.underlying24 info4 rfl (by decide) (by omega) v272 y271 l1 _ _ _ (fun _ => True) (fun _ => False) rfl rfl ?aO ?aR (fun _ _ h => h) (fun _ h => h.elim) ?aF ?aB ?aS ?aL ?_; (case aR => first | exact Grow.cb HR1.out HB.out | exact Kd.C_below HR1.out HB.out); (case aB => exact (by first | exact Grow.bl HB.out | exact HB.out)); (case aF => exact (fun _ _ => trivial)); (case aO => exact (by first | exact Grow.rg HO273.out | exact HO273.out)); (case aS => exact (below_size (by first | exact Grow.bl HB.out | exact HB.out))); (case aL => have := LMc14.out; omega); intro v275 w22 ho hb hg hat; rw [← Ny274.out] at ho; have n0_ := Aside0.mk (Kd.R_over' (by first | exact Grow.rg HO_9.out | exact HO_9.out) (Kd.R_typed (by first | exact Grow.rg HO273.out | exact HO273.out)) (by decide) hg); have n1_ := Aside0.mk (Kd.R_over' (by first | exact Grow.rg HO_21.out | exact HO_21.out) (Kd.R_typed (by first | exact Grow.rg HO273.out | exact HO273.out)) (by decide) hg); have n2_ := Aside0.mk (hb); have n3_ := Aside0.mk (ho); clear HO_9; clear HO_21; clear HB; clear HO273; have HO_9 := n0_; have HO_21 := n1_; have HB := n2_; have HO276 := n3_; clear n0_ n1_ n2_ n3_; clear ho hb hg hat; have p17 : 0 ≤ (a2 : Int) := of_decide_eq_true (by first | (with_reducible assumption) | assumption); have q17 : (a2 : Int) < ((y274.length : Int) : Int) := of_decide_eq_true (by first | (with_reducible assumption) | assumption); obtain ⟨go17, co17, eo17, gb17, gl17, cl17, HG17⟩ := Kd.R_form HO276.out (by omega); (first | cases eo17 | (injection eo17 with ea_ en_ ec_; (first | subst ea_ | (injection ea_ with ea_; subst ea_)); subst ec_; clear en_)); have GB17 := Aside0.mk gb17; have GG17 := Aside0.mk HG17; clear gb17 gl17 HG17; obtain ⟨hx17_0, hf17_0⟩ := Kd.R_celln false HO276.out (a2 : Int) p17 q17; replace p17 := eq_true p17; replace q17 := eq_true q17; obtain ⟨hy23_, hz23_⟩ := Kd.R_celln false HO276.out (a2 : Int) (of_decide_eq_true (by first | (with_reducible assumption) | assumption)) (of_decide_eq_true (by first | (with_reducible assumption) | assumption)); have HP23 := Kd.R_putg HO276.out (a2 : Int) false) | ((with_reducible refine gate_store (t := 4) (p := 42) rfl ?_); (try (rw [drewN_self w22]; generalize hq_ : World.drewN w22 _ = w22; have n0_ := Aside0.mk (Kd.R_at hq_ HO_9.out); have n1_ := Aside0.mk (Kd.R_at hq_ HO_21.out); have n2_ := Aside0.mk (Kd.R_at hq_ HO276.out); have n3_ := Aside0.mk (below_at hq_ HB.out); clear hq_ HO_9 HO_21 HO276 HB; have HO_9 := n0_; have HO_21 := n1_; have HO276 := n2_; have HB := n3_; clear n0_ n1_ n2_ n3_; (try (obtain ⟨hy23_, hz23_⟩ := Kd.R_celln false HO276.out (a2 : Int) (of_decide_eq_true (by first | (with_reducible assumption) | assumption)) (of_decide_eq_true (by first | (with_reducible assumption) | assumption)))); (try (have HP23 := Kd.R_putg HO276.out (a2 : Int) false)))); refine store_event (t := 4) (p := 42) (v := ?vo_w24) (w1 := (w22.setCell ⟨go17, (a2 : Int).toNat, none⟩ (.bool false))) ?hg ?ho ?hn ?hr ?_; (case ho => rfl); (case hg => rfl); (case hn => rfl); (case hr => first | (go_simp; done) | (go_simp; rfl)); intro w24 hw; have hg : w22.grownBy w24 (some go17) := (by rw [hw]; exact HP23.2); have hp_ : Kd.R Kd.bool 4 w24 w.heap.size (fun _ => True) (.slice (some ⟨go17, 0, none⟩) y274.length co17) y277 := (by rw [hw, Ny277.out]; exact HP23.1); clear HP23; have n0_ := Aside0.mk (Kd.R_over' (v := (.slice (some ⟨go17, 0, none⟩) y274.length co17)) (by first | exact Grow.rg HO_9.out | exact HO_9.out) (Kd.R_typed HO276.out) (by decide) hg); have n1_ := Aside0.mk (Kd.R_over' (v := (.slice (some ⟨go17, 0, none⟩) y274.length co17)) (by first | exact Grow.rg HO_21.out | exact HO_21.out) (Kd.R_typed HO276.out) (by decide) hg); have n2_ := Aside0.mk (hp_); have n3_ := Aside0.mk ((by rw [hw]; exact below_set (HB.out) GB17.out : Below w.heap.size w w24)); clear HO_9; clear HO_21; clear HO276; clear HB; have HO_9 := n0_; have HO_21 := n1_; have HO276 := n2_; have HB := n3_; clear n0_ n1_ n2_ n3_; clear hg hw hp_) | (go_at_call 29; refine calls_of_args (args' := #[.pointer (some ⟨gP, 0, none⟩), .slice (some ⟨go17, 0, none⟩) y277.length co17]) (by first | (rw [show y277.length = y274.length from (Kd.R_reads' HO276.out).1.symm] <;> rfl) | rfl) ?_; (with_reducible refine (impl_plant_basis.calls k1 gP _ _ y277 t278 _ ?side1 ?side2 A18.out (HP.out.below (by first | exact Grow.bl HB.out | exact HB.out))).mono ?_); (case side1 => repeat (first | exact (Kd.R_reads' HO276.out).2.2 | (with_reducible refine Kd.C_alloc ?_ _) | (with_reducible refine Kd.C_drewN ?_ _) | (with_reducible refine Kd.C_drew ?_))); (case side2 => rw [show y277.length = y274.length from (Kd.R_reads' HO276.out).1.symm]; exact (Kd.R_reads' HO276.out).2.1); rintro e w25 ⟨v279, rfl, ho0, hb⟩; have n0_ := Aside0.mk (Kd.R_elder' (by first | exact Grow.rg HO_9.out | exact HO_9.out) (Kd.R_base ho0) hb); have n1_ := Aside0.mk (Kd.R_elder' (by first | exact Grow.rg HO_21.out | exact HO_21.out) (Kd.R_base ho0) hb); have n2_ := Aside0.mk (Kd.R_below (by first | exact Grow.rg HO276.out | exact HO276.out) hb); have n3_ := Aside0.mk (Kd.R_lower (Kd.R_new' (Kd.R_new' ho0 (Kd.R_lt (by first | exact Grow.rg HO_9.out | exact HO_9.out))) (Kd.R_lt (by first | exact Grow.rg HO_21.out | exact HO_21.out))) (below_size (by first | exact Grow.bl HB.out | exact HB.out))); have n4_ := Aside0.mk (below_step (by first | exact Grow.bl HB.out | exact HB.out) hb); clear HO_9; clear HO_21; clear HO276; clear HB; have HO_9 := n0_; have HO_21 := n1_; have HO276 := n2_; have HO280 := n3_; have HB := n4_; clear n0_ n1_ n2_ n3_ n4_; (try clear hb); (try clear hb2); (try clear hk); (try clear hi); (try clear ho0); obtain ⟨Ao26, co26, eo26⟩ := Kd.R_slice HO280.out; subst eo26; have hkq_ := pw_cell_below HB.out hk_t281))
   repeat (go_quiet (first | ((with_reducible refine gate_dst (N := 37) rfl ?_); refine Kd.R_lit Kd.bool _ 4 ?hg (N := 37) ?hd (xs := ([] : List Bool)) (inner := []) (ok := fun _ => True) (okp := fun _ => True) ?hr ?hp (fun _ hk => hk) trivial (Below.refl _ _) (Nat.le_refl _) (by simp) ?_; (case hd => rfl); (case hg => rfl); (case hr => first | (go_simp; done) | (go_simp; rfl)); (case hp => exact (Reps.none _ _)); intro v272 w20 ho21 hb hg_ hnew_; clear hg_ hnew_; (first | rw [← Ny271.out] at ho21 | (simp only [Int.reduceToNat] at ho21; rw [← Ny271.out] at ho21)); have n0_ := Aside0.mk (Kd.R_below (by first | exact Grow.rg HO_9.out | exact HO_9.out) hb); have n1_ := Aside0.mk (Kd.R_below (by first | exact Grow.rg HO_21.out | exact HO_21.out) hb); have n2_ := Aside0.mk (Kd.R_lower ho21 (below_size (by first | exact Grow.bl HB.out | exact HB.out))); have n3_ := Aside0.mk (below_step (by first | exact Grow.bl HB.out | exact HB.out) hb); clear HO_9; clear HO_21; clear HB; have HO_9 := n0_; have HO_21 := n1_; have HO273 := n2_; have HB := n3_; clear n0_ n1_ n2_ n3_; clear hb ho21) | ((with_reducible refine gate_builtin (b := .append) (xs := #[.tmp 37, .tmp 38]) rfl ?_); at_builtin; refine Kd.R_append_rows Kd.bool (w0 := w) w.heap.size rfl (.tmp 37) (.tmp 38) 24 4 (.bool false) 1 rfl Try.underlying24 info4 rfl (by decide) (by omega) v272 y271 l1 _ _ _ (fun _ => True) (fun _ => False) rfl rfl ?aO ?aR (fun _ _ h => h) (fun _ h => h.elim) ?aF ?aB ?aS ?aL ?_; (case aR => first | exact Grow.cb HR1.out HB.out | exact Kd.C_below HR1.out HB.out); (case aB => exact (by first | exact Grow.bl HB.out | exact HB.out)); (case aF => exact (fun _ _ => trivial)); (case aO => exact (by first | exact Grow.rg HO273.out | exact HO273.out)); (case aS => exact (below_size (by first | exact Grow.bl HB.out | exact HB.out))); (case aL => have := LMc14.out; omega); intro v275 w22 ho hb hg hat; rw [← Ny274.out] at ho; have n0_ := Aside0.mk (Kd.R_over' (by first | exact Grow.rg HO_9.out | exact HO_9.out) (Kd.R_typed (by first | exact Grow.rg HO273.out | exact HO273.out)) (by decide) hg); have n1_ := Aside0.mk (Kd.R_over' (by first | exact Grow.rg HO_21.out | exact HO_21.out) (Kd.R_typed (by first | exact Grow.rg HO273.out | exact HO273.out)) (by decide) hg); have n2_ := Aside0.mk (hb); have n3_ := Aside0.mk (ho); clear HO_9; clear HO_21; clear HB; clear HO273; have HO_9 := n0_; have HO_21 := n1_; have HB := n2_; have HO276 := n3_; clear n0_ n1_ n2_ n3_; clear ho hb hg hat; have p17 : 0 ≤ (a2 : Int) := of_decide_eq_true (by first | (with_reducible assumption) | assumption); have q17 : (a2 : Int) < ((y274.length : Int) : Int) := of_decide_eq_true (by first | (with_reducible assumption) | assumption); obtain ⟨go17, co17, eo17, gb17, gl17, cl17, HG17⟩ := Kd.R_form HO276.out (by omega); (first | cases eo17 | (injection eo17 with ea_ en_ ec_; (first | subst ea_ | (injection ea_ with ea_; subst ea_)); subst ec_; clear en_)); have GB17 := Aside0.mk gb17; have GG17 := Aside0.mk HG17; clear gb17 gl17 HG17; obtain ⟨hx17_0, hf17_0⟩ := Kd.R_celln false HO276.out (a2 : Int) p17 q17; replace p17 := eq_true p17; replace q17 := eq_true q17; obtain ⟨hy23_, hz23_⟩ := Kd.R_celln false HO276.out (a2 : Int) (of_decide_eq_true (by first | (with_reducible assumption) | assumption)) (of_decide_eq_true (by first | (with_reducible assumption) | assumption)); have HP23 := Kd.R_putg HO276.out (a2 : Int) false) | ((with_reducible refine gate_store (t := 4) (p := 42) rfl ?_); (try (rw [drewN_self w22]; generalize hq_ : World.drewN w22 _ = w22; have n0_ := Aside0.mk (Kd.R_at hq_ HO_9.out); have n1_ := Aside0.mk (Kd.R_at hq_ HO_21.out); have n2_ := Aside0.mk (Kd.R_at hq_ HO276.out); have n3_ := Aside0.mk (below_at hq_ HB.out); clear hq_ HO_9 HO_21 HO276 HB; have HO_9 := n0_; have HO_21 := n1_; have HO276 := n2_; have HB := n3_; clear n0_ n1_ n2_ n3_; (try (obtain ⟨hy23_, hz23_⟩ := Kd.R_celln false HO276.out (a2 : Int) (of_decide_eq_true (by first | (with_reducible assumption) | assumption)) (of_decide_eq_true (by first | (with_reducible assumption) | assumption)))); (try (have HP23 := Kd.R_putg HO276.out (a2 : Int) false)))); refine store_event (t := 4) (p := 42) (v := ?vo_w24) (w1 := (w22.setCell ⟨go17, (a2 : Int).toNat, none⟩ (.bool false))) ?hg ?ho ?hn ?hr ?_; (case ho => rfl); (case hg => rfl); (case hn => rfl); (case hr => first | (go_simp; done) | (go_simp; rfl)); intro w24 hw; have hg : w22.grownBy w24 (some go17) := (by rw [hw]; exact HP23.2); have hp_ : Kd.R Kd.bool 4 w24 w.heap.size (fun _ => True) (.slice (some ⟨go17, 0, none⟩) y274.length co17) y277 := (by rw [hw, Ny277.out]; exact HP23.1); clear HP23; have n0_ := Aside0.mk (Kd.R_over' (v := (.slice (some ⟨go17, 0, none⟩) y274.length co17)) (by first | exact Grow.rg HO_9.out | exact HO_9.out) (Kd.R_typed HO276.out) (by decide) hg); have n1_ := Aside0.mk (Kd.R_over' (v := (.slice (some ⟨go17, 0, none⟩) y274.length co17)) (by first | exact Grow.rg HO_21.out | exact HO_21.out) (Kd.R_typed HO276.out) (by decide) hg); have n2_ := Aside0.mk (hp_); have n3_ := Aside0.mk ((by rw [hw]; exact below_set (HB.out) GB17.out : Below w.heap.size w w24)); clear HO_9; clear HO_21; clear HO276; clear HB; have HO_9 := n0_; have HO_21 := n1_; have HO276 := n2_; have HB := n3_; clear n0_ n1_ n2_ n3_; clear hg hw hp_) | (go_at_call 29; refine calls_of_args (args' := #[.pointer (some ⟨gP, 0, none⟩), .slice (some ⟨go17, 0, none⟩) y277.length co17]) (by first | (rw [show y277.length = y274.length from (Kd.R_reads' HO276.out).1.symm] <;> rfl) | rfl) ?_; (with_reducible refine (impl_plant_basis.calls k1 gP _ _ y277 t278 _ ?side1 ?side2 A18.out (HP.out.below (by first | exact Grow.bl HB.out | exact HB.out))).mono ?_); (case side1 => repeat (first | exact (Kd.R_reads' HO276.out).2.2 | (with_reducible refine Kd.C_alloc ?_ _) | (with_reducible refine Kd.C_drewN ?_ _) | (with_reducible refine Kd.C_drew ?_))); (case side2 => rw [show y277.length = y274.length from (Kd.R_reads' HO276.out).1.symm]; exact (Kd.R_reads' HO276.out).2.1); rintro e w25 ⟨v279, rfl, ho0, hb⟩; have n0_ := Aside0.mk (Kd.R_elder' (by first | exact Grow.rg HO_9.out | exact HO_9.out) (Kd.R_base ho0) hb); have n1_ := Aside0.mk (Kd.R_elder' (by first | exact Grow.rg HO_21.out | exact HO_21.out) (Kd.R_base ho0) hb); have n2_ := Aside0.mk (Kd.R_below (by first | exact Grow.rg HO276.out | exact HO276.out) hb); have n3_ := Aside0.mk (Kd.R_lower (Kd.R_new' (Kd.R_new' ho0 (Kd.R_lt (by first | exact Grow.rg HO_9.out | exact HO_9.out))) (Kd.R_lt (by first | exact Grow.rg HO_21.out | exact HO_21.out))) (below_size (by first | exact Grow.bl HB.out | exact HB.out))); have n4_ := Aside0.mk (below_step (by first | exact Grow.bl HB.out | exact HB.out) hb); clear HO_9; clear HO_21; clear HO276; clear HB; have HO_9 := n0_; have HO_21 := n1_; have HO276 := n2_; have HO280 := n3_; have HB := n4_; clear n0_ n1_ n2_ n3_ n4_; (try clear hb); (try clear hb2); (try clear hk); (try clear hi); (try clear ho0); obtain ⟨Ao26, co26, eo26⟩ := Kd.R_slice HO280.out; subst eo26; have hkq_ := pw_cell_below HB.out hk_t281)); try go_wp2_with (first | ((with_reducible refine gate_dst (N := 37) rfl ?_); refine Kd.R_lit Kd.bool _ 4 ?hg (N := 37) ?hd (xs := ([] : List Bool)) (inner := []) (ok := fun _ => True) (okp := fun _ => True) ?hr ?hp (fun _ hk => hk) trivial (Below.refl _ _) (Nat.le_refl _) (by simp) ?_; (case hd => rfl); (case hg => rfl); (case hr => first | (go_simp; done) | (go_simp; rfl)); (case hp => exact (Reps.none _ _)); intro v272 w20 ho21 hb hg_ hnew_; clear hg_ hnew_; (first | rw [← Ny271.out] at ho21 | (simp only [Int.reduceToNat] at ho21; rw [← Ny271.out] at ho21)); have n0_ := Aside0.mk (Kd.R_below (by first | exact Grow.rg HO_9.out | exact HO_9.out) hb); have n1_ := Aside0.mk (Kd.R_below (by first | exact Grow.rg HO_21.out | exact HO_21.out) hb); have n2_ := Aside0.mk (Kd.R_lower ho21 (below_size (by first | exact Grow.bl HB.out | exact HB.out))); have n3_ := Aside0.mk (below_step (by first | exact Grow.bl HB.out | exact HB.out) hb); clear HO_9; clear HO_21; clear HB; have HO_9 := n0_; have HO_21 := n1_; have HO273 := n2_; have HB := n3_; clear n0_ n1_ n2_ n3_; clear hb ho21) | ((with_reducible refine gate_builtin (b := .append) (xs := #[.tmp 37, .tmp 38]) rfl ?_); at_builtin; refine Kd.R_append_rows Kd.bool (w0 := w) w.heap.size rfl (.tmp 37) (.tmp 38) 24 4 (.bool false) 1 rfl Try.underlying24 info4 rfl (by decide) (by omega) v272 y271 l1 _ _ _ (fun _ => True) (fun _ => False) rfl rfl ?aO ?aR (fun _ _ h => h) (fun _ h => h.elim) ?aF ?aB ?aS ?aL ?_; (case aR => first | exact Grow.cb HR1.out HB.out | exact Kd.C_below HR1.out HB.out); (case aB => exact (by first | exact Grow.bl HB.out | exact HB.out)); (case aF => exact (fun _ _ => trivial)); (case aO => exact (by first | exact Grow.rg HO273.out | exact HO273.out)); (case aS => exact (below_size (by first | exact Grow.bl HB.out | exact HB.out))); (case aL => have := LMc14.out; omega); intro v275 w22 ho hb hg hat; rw [← Ny274.out] at ho; have n0_ := Aside0.mk (Kd.R_over' (by first | exact Grow.rg HO_9.out | exact HO_9.out) (Kd.R_typed (by first | exact Grow.rg HO273.out | exact HO273.out)) (by decide) hg); have n1_ := Aside0.mk (Kd.R_over' (by first | exact Grow.rg HO_21.out | exact HO_21.out) (Kd.R_typed (by first | exact Grow.rg HO273.out | exact HO273.out)) (by decide) hg); have n2_ := Aside0.mk (hb); have n3_ := Aside0.mk (ho); clear HO_9; clear HO_21; clear HB; clear HO273; have HO_9 := n0_; have HO_21 := n1_; have HB := n2_; have HO276 := n3_; clear n0_ n1_ n2_ n3_; clear ho hb hg hat; have p17 : 0 ≤ (a2 : Int) := of_decide_eq_true (by first | (with_reducible assumption) | assumption); have q17 : (a2 : Int) < ((y274.length : Int) : Int) := of_decide_eq_true (by first | (with_reducible assumption) | assumption); obtain ⟨go17, co17, eo17, gb17, gl17, cl17, HG17⟩ := Kd.R_form HO276.out (by omega); (first | cases eo17 | (injection eo17 with ea_ en_ ec_; (first | subst ea_ | (injection ea_ with ea_; subst ea_)); subst ec_; clear en_)); have GB17 := Aside0.mk gb17; have GG17 := Aside0.mk HG17; clear gb17 gl17 HG17; obtain ⟨hx17_0, hf17_0⟩ := Kd.R_celln false HO276.out (a2 : Int) p17 q17; replace p17 := eq_true p17; replace q17 := eq_true q17; obtain ⟨hy23_, hz23_⟩ := Kd.R_celln false HO276.out (a2 : Int) (of_decide_eq_true (by first | (with_reducible assumption) | assumption)) (of_decide_eq_true (by first | (with_reducible assumption) | assumption)); have HP23 := Kd.R_putg HO276.out (a2 : Int) false) | ((with_reducible refine gate_store (t := 4) (p := 42) rfl ?_); (try (rw [drewN_self w22]; generalize hq_ : World.drewN w22 _ = w22; have n0_ := Aside0.mk (Kd.R_at hq_ HO_9.out); have n1_ := Aside0.mk (Kd.R_at hq_ HO_21.out); have n2_ := Aside0.mk (Kd.R_at hq_ HO276.out); have n3_ := Aside0.mk (below_at hq_ HB.out); clear hq_ HO_9 HO_21 HO276 HB; have HO_9 := n0_; have HO_21 := n1_; have HO276 := n2_; have HB := n3_; clear n0_ n1_ n2_ n3_; (try (obtain ⟨hy23_, hz23_⟩ := Kd.R_celln false HO276.out (a2 : Int) (of_decide_eq_true (by first | (with_reducible assumption) | assumption)) (of_decide_eq_true (by first | (with_reducible assumption) | assumption)))); (try (have HP23 := Kd.R_putg HO276.out (a2 : Int) false)))); refine store_event (t := 4) (p := 42) (v := ?vo_w24) (w1 := (w22.setCell ⟨go17, (a2 : Int).toNat, none⟩ (.bool false))) ?hg ?ho ?hn ?hr ?_; (case ho => rfl); (case hg => rfl); (case hn => rfl); (case hr => first | (go_simp; done) | (go_simp; rfl)); intro w24 hw; have hg : w22.grownBy w24 (some go17) := (by rw [hw]; exact HP23.2); have hp_ : Kd.R Kd.bool 4 w24 w.heap.size (fun _ => True) (.slice (some ⟨go17, 0, none⟩) y274.length co17) y277 := (by rw [hw, Ny277.out]; exact HP23.1); clear HP23; have n0_ := Aside0.mk (Kd.R_over' (v := (.slice (some ⟨go17, 0, none⟩) y274.length co17)) (by first | exact Grow.rg HO_9.out | exact HO_9.out) (Kd.R_typed HO276.out) (by decide) hg); have n1_ := Aside0.mk (Kd.R_over' (v := (.slice (some ⟨go17, 0, none⟩) y274.length co17)) (by first | exact Grow.rg HO_21.out | exact HO_21.out) (Kd.R_typed HO276.out) (by decide) hg); have n2_ := Aside0.mk (hp_); have n3_ := Aside0.mk ((by rw [hw]; exact below_set (HB.out) GB17.out : Below w.heap.size w w24)); clear HO_9; clear HO_21; clear HO276; clear HB; have HO_9 := n0_; have HO_21 := n1_; have HO276 := n2_; have HB := n3_; clear n0_ n1_ n2_ n3_; clear hg hw hp_) | (go_at_call 29; refine calls_of_args (args' := #[.pointer (some ⟨gP, 0, none⟩), .slice (some ⟨go17, 0, none⟩) y277.length co17]) (by first | (rw [show y277.length = y274.length from (Kd.R_reads' HO276.out).1.symm] <;> rfl) | rfl) ?_; (with_reducible refine (impl_plant_basis.calls k1 gP _ _ y277 t278 _ ?side1 ?side2 A18.out (HP.out.below (by first | exact Grow.bl HB.out | exact HB.out))).mono ?_); (case side1 => repeat (first | exact (Kd.R_reads' HO276.out).2.2 | (with_reducible refine Kd.C_alloc ?_ _) | (with_reducible refine Kd.C_drewN ?_ _) | (with_reducible refine Kd.C_drew ?_))); (case side2 => rw [show y277.length = y274.length from (Kd.R_reads' HO276.out).1.symm]; exact (Kd.R_reads' HO276.out).2.1); rintro e w25 ⟨v279, rfl, ho0, hb⟩; have n0_ := Aside0.mk (Kd.R_elder' (by first | exact Grow.rg HO_9.out | exact HO_9.out) (Kd.R_base ho0) hb); have n1_ := Aside0.mk (Kd.R_elder' (by first | exact Grow.rg HO_21.out | exact HO_21.out) (Kd.R_base ho0) hb); have n2_ := Aside0.mk (Kd.R_below (by first | exact Grow.rg HO276.out | exact HO276.out) hb); have n3_ := Aside0.mk (Kd.R_lower (Kd.R_new' (Kd.R_new' ho0 (Kd.R_lt (by first | exact Grow.rg HO_9.out | exact HO_9.out))) (Kd.R_lt (by first | exact Grow.rg HO_21.out | exact HO_21.out))) (below_size (by first | exact Grow.bl HB.out | exact HB.out))); have n4_ := Aside0.mk (below_step (by first | exact Grow.bl HB.out | exact HB.out) hb); clear HO_9; clear HO_21; clear HO276; clear HB; have HO_9 := n0_; have HO_21 := n1_; have HO276 := n2_; have HO280 := n3_; have HB := n4_; clear n0_ n1_ n2_ n3_ n4_; (try clear hb); (try clear hb2); (try clear hk); (try clear hi); (try clear ho0); obtain ⟨Ao26, co26, eo26⟩ := Kd.R_slice HO280.out; subst eo26; have hkq_ := pw_cell_below HB.out hk_t281)))
   go_ret3
   exact ⟨_, by first | rfl | (simp [errW_none, errW_some] <;> rfl) | (simp [*, errW_none, errW_some] <;> rfl), by (with_reducible repeat (first | apply Kd.R_alloc | apply Kd.R_drewN | apply Kd.R_drew)); exact Kd.R_mono HO280.out (fun _ hk => trivial), by first | exact Grow.bl HB.out | exact HB.out⟩

/-! ### impl_RepairPlan: function 7 -/
mutual
def impl_RepairPlan.j0 : Nat → List Bool → Int → Bool → Int → Int → Int → Option (Int × List Int)
  | 0, _, _, _, _, _, _ => none
  | k + 1, x1, x2, x32, x283000, x283001, x283002 => if x32 = true then (some (1, ([] : List Int))) else ((impl_newPlant.f x283000 x283001 x283002).bind fun t287 => ((impl_plant_planOf.f k t287 x1 x2).bind fun bt288 => (if bt288.2.2 = true then (impl_RepairPlan.l0 k bt288.1 (bt288.1.length : Int) 0 0 ([] : List Int)) else (some (8, ([] : List Int))))))
def impl_RepairPlan.l0 : Nat → List Int → Int → Int → Int → List Int → Option (Int × List Int)
  | 0, _, _, _, _, _ => none
  | k + 1, x47, x48, x49, x294000, x294001 => if x49 < x48 then (if 0 ≤ x49 then (if x49 < (x47.length : Int) then (if x294001.length < 17592186044416 then (impl_RepairPlan.l0 k x47 x48 (wrap64 (x49 + 1)) x294000 (x294001 ++ [rd x47 x49])) else (none)) else (none)) else (none)) else (some (x294000, x294001))
end
def impl_RepairPlan.f (k : Nat) (a0_0 : Int) (a0_1 : Int) (a0_2 : Int) (l1 : List Bool) (a2 : Int) : Option (Int × List Int) := (impl_CodeFault.f a0_0 a0_1 a0_2).bind fun t284 => (if t284 = 0 then ((impl_CodeSize.f a0_0 a0_1 a0_2).bind fun t285 => (if (l1.length : Int) = t285 then (if a2 < 0 then (impl_RepairPlan.j0 k l1 a2 true a0_0 a0_1 a0_2) else ((impl_CodeSize.f a0_0 a0_1 a0_2).bind fun t286 => (impl_RepairPlan.j0 k l1 a2 (decide (a2 ≥ t286)) a0_0 a0_1 a0_2))) else (impl_RepairPlan.j0 k l1 a2 true a0_0 a0_1 a0_2))) else (impl_RepairPlan.j0 k l1 a2 true a0_0 a0_1 a0_2))
theorem impl_RepairPlan.mono_l : ∀ k, (∀ y0 y1 y2 y3 y4 y5, LeO (impl_RepairPlan.j0 k y0 y1 y2 y3 y4 y5) (impl_RepairPlan.j0 (k + 1) y0 y1 y2 y3 y4 y5)) ∧ (∀ y0 y1 y2 y3 y4, LeO (impl_RepairPlan.l0 k y0 y1 y2 y3 y4) (impl_RepairPlan.l0 (k + 1) y0 y1 y2 y3 y4))
  | 0 => ⟨fun _ _ _ _ _ _ r h => by simp [impl_RepairPlan.j0] at h, fun _ _ _ _ _ r h => by simp [impl_RepairPlan.l0] at h⟩
  | k + 1 => by
    obtain ⟨ih0, ih1⟩ := impl_RepairPlan.mono_l k
    refine ⟨?_, ?_⟩
    · intro y0 y1 y2 y3 y4 y5
      unfold impl_RepairPlan.j0
      repeat' first
      | (with_reducible exact ih0 _ _ _ _ _ _)
      | (with_reducible exact ih1 _ _ _ _ _)
      | (with_reducible exact impl_plant_planOf.mono _ _ _ _)
      | (with_reducible exact LeO.refl _)
      | (with_reducible exact LeO.none _)
      | (with_reducible refine LeO.ite ?_ ?_)
      | (with_reducible refine LeO.bind ?_ (fun _ => ?_))
      | exact ih0 _ _ _ _ _ _
      | exact ih1 _ _ _ _ _
      | exact impl_plant_planOf.mono _ _ _ _
      | exact LeO.none _
      | refine LeO.ite ?_ ?_
      | refine LeO.bind ?_ (fun _ => ?_)
    · intro y0 y1 y2 y3 y4
      unfold impl_RepairPlan.l0
      repeat' first
      | (with_reducible exact ih0 _ _ _ _ _ _)
      | (with_reducible exact ih1 _ _ _ _ _)
      | (with_reducible exact impl_plant_planOf.mono _ _ _ _)
      | (with_reducible exact LeO.refl _)
      | (with_reducible exact LeO.none _)
      | (with_reducible refine LeO.ite ?_ ?_)
      | (with_reducible refine LeO.bind ?_ (fun _ => ?_))
      | exact ih0 _ _ _ _ _ _
      | exact ih1 _ _ _ _ _
      | exact impl_plant_planOf.mono _ _ _ _
      | exact LeO.none _
      | refine LeO.ite ?_ ?_
      | refine LeO.bind ?_ (fun _ => ?_)
theorem impl_RepairPlan.mono : ∀ a0 a1 a2 a3 a4 k, LeO (impl_RepairPlan.f k a0 a1 a2 a3 a4) (impl_RepairPlan.f (k + 1) a0 a1 a2 a3 a4) := by
  intro a0 a1 a2 a3 a4 k
  obtain ⟨ih0, ih1⟩ := impl_RepairPlan.mono_l k
  unfold impl_RepairPlan.f
  repeat' first
      | (with_reducible exact ih0 _ _ _ _ _ _)
      | (with_reducible exact ih1 _ _ _ _ _)
      | (with_reducible exact impl_plant_planOf.mono _ _ _ _)
      | (with_reducible exact LeO.refl _)
      | (with_reducible exact LeO.none _)
      | (with_reducible refine LeO.ite ?_ ?_)
      | (with_reducible refine LeO.bind ?_ (fun _ => ?_))
      | exact ih0 _ _ _ _ _ _
      | exact ih1 _ _ _ _ _
      | exact impl_plant_planOf.mono _ _ _ _
      | exact LeO.none _
      | refine LeO.ite ?_ ?_
      | refine LeO.bind ?_ (fun _ => ?_)
set_option maxHeartbeats 8000000 in
set_option maxRecDepth 100000 in
theorem impl_RepairPlan.calls (k : Nat) (a0_0 : Int) (a0_1 : Int) (a0_2 : Int) (A1 : Option Addr) (c1 : Nat) (l1 : List Bool) (a2 : Int) (r1 : Int) (r2 : List Int) (w : World) (hr1 : Kd.C Kd.bool w A1 l1.length l1) (hc1 : l1.length ≤ c1) (h : impl_RepairPlan.f k a0_0 a0_1 a0_2 l1 a2 = some (r1, r2)) :
  Calls Try.prog 7 #[.agg #[.int .i64 a0_0, .int .i64 a0_1, .int .i64 a0_2], .slice A1 l1.length c1, .int .i64 a2] w fun e w' => ∃ v1_ : Value, e = .returned (.agg #[.int .i64 r1, v1_]) ∧ Kd.R (Kd.int .i64) 2 w' w.heap.size (fun _ => True) v1_ r2 ∧ Below w.heap.size w w' := by
 have hu29 := Try.underlying29
 have hu27 := Try.underlying27
 have HR1 := Aside0.mk hr1
 have HC1 := Aside0.mk hc1
 clear hr1 hc1
 have HB := Aside0.mk (Below.refl w.heap.size w)
 have H : ((impl_CodeFault.f a0_0 a0_1 a0_2).bind fun t284 => (if t284 = 0 then ((impl_CodeSize.f a0_0 a0_1 a0_2).bind fun t285 => (if (l1.length : Int) = t285 then (if a2 < 0 then (impl_RepairPlan.j0 k l1 a2 true a0_0 a0_1 a0_2) else ((impl_CodeSize.f a0_0 a0_1 a0_2).bind fun t286 => (impl_RepairPlan.j0 k l1 a2 (decide (a2 ≥ t286)) a0_0 a0_1 a0_2))) else (impl_RepairPlan.j0 k l1 a2 true a0_0 a0_1 a0_2))) else (impl_RepairPlan.j0 k l1 a2 true a0_0 a0_1 a0_2))) = some (r1, r2) := h
 clear h
 have HC4 := Aside0.mk H
 clear H
 go_enter Try.func7, Try.ntmps7
 go_upto_region 1 with (first | ((with_reducible refine gate_dst (N := 3) rfl ?_); (try (refine gate_guard (by rfl) ?_; dsimp only)); refine box_event ?hg (N := 3) ?hd (cs := #[.int .i64 a0_0, .int .i64 a0_1, .int .i64 a0_2]) (t := 29) ?hr ?_; (case hd => rfl); (case hg => rfl); (case hr => first | (go_simp; done) | (go_simp; rfl)); intro gb282 hg w5 hbox hb; have n0_ := Aside0.mk (below_step (by first | exact Grow.bl HB.out | exact HB.out) hb); have n1_ := Aside0.mk (hbox); have n2_ := Aside0.mk ((by rw [hg]; exact (below_size (by first | exact Grow.bl HB.out | exact HB.out)) : w.heap.size ≤ gb282)); have n3_ := Aside0.mk ((by rw [hg]; exact (below_size (by first | exact Grow.bl HB.out | exact HB.out)) : w.heap.size ≤ gb282)); clear HB; have HB := n0_; have BK282 := n1_; have GW282 := n2_; have GE282 := n3_; clear n0_ n1_ n2_ n3_; clear hb hbox hg) | ((with_reducible refine gate_dst (N := 6) rfl ?_); (try (refine gate_guard (by rfl) ?_; dsimp only)); refine box_event ?hg (N := 6) ?hd (cs := #[.int .i64 0, .slice none 0 0]) (t := 27) ?hr ?_; (case hd => rfl); (case hg => rfl); (case hr => first | (go_simp; done) | (go_simp; rfl)); intro gb283 hg w6 hbox hb; have n0_ := Aside0.mk (blk_below (g := gb282) (o := .cells #[.int .i64 a0_0, .int .i64 a0_1, .int .i64 a0_2] 29 (0, 0)) (by first | exact Grow.bk BK282.out | exact BK282.out) hb); have n1_ := Aside0.mk (below_step (by repeat (first | (with_reducible first | exact HB.out | apply below_alloc | apply pw_below_drewN | apply below_drew1 | refine below_set ?_ GE282.out) | exact HB.out)) hb); have n2_ := Aside0.mk (hbox); have n3_ := Aside0.mk ((by rw [hg]; exact (below_size (by repeat (first | (with_reducible first | exact HB.out | apply below_alloc | apply pw_below_drewN | apply below_drew1 | refine below_set ?_ GE282.out) | exact HB.out))) : w.heap.size ≤ gb283)); have n4_ := Aside0.mk ((by rw [hg]; exact (below_size (by repeat (first | (with_reducible first | exact HB.out | apply below_alloc | apply pw_below_drewN | apply below_drew1 | refine below_set ?_ GE282.out) | exact HB.out))) : w.heap.size ≤ gb283)); have n5_ := Aside0.mk ((by rw [hg]; exact Nat.ne_of_lt (blk_lt (g := gb282) (o := .cells #[.int .i64 a0_0, .int .i64 a0_1, .int .i64 a0_2] 29 (0, 0)) (by first | exact Grow.bk BK282.out | exact BK282.out)) : gb282 ≠ gb283)); have n6_ := Aside0.mk ((by rw [hg]; exact Nat.ne_of_gt (blk_lt (g := gb282) (o := .cells #[.int .i64 a0_0, .int .i64 a0_1, .int .i64 a0_2] 29 (0, 0)) (by first | exact Grow.bk BK282.out | exact BK282.out)) : gb283 ≠ gb282)); clear BK282; clear HB; have BK282 := n0_; have HB := n1_; have BK283 := n2_; have GW283 := n3_; have GE283 := n4_; have NB282_283 := n5_; have NB283_282 := n6_; clear n0_ n1_ n2_ n3_ n4_ n5_ n6_; clear hb hbox hg))
 (try simp only [Act.put, List.setIfInBounds_toArray, List.set_cons_zero, List.set_cons_succ])
 go_cut [32] (fun v32 wc => ∃ (kq : Nat) (x32_3 : Bool), v32 = .bool x32_3 ∧ Aside0 (impl_RepairPlan.j0 kq l1 a2 x32_3 a0_0 a0_1 a0_2 = some (r1, r2)) ∧ Aside0 (kq ≤ k) ∧ Aside0 (wc.heap[gb282]? = some (.cells #[.int .i64 a0_0, .int .i64 a0_1, .int .i64 a0_2] 29 (0, 0))) ∧ Aside0 (wc.heap[gb283]? = some (.cells #[.int .i64 0, (.slice none 0 0)] 27 (0, 0))) ∧ Aside0 (Below w.heap.size w wc))
 case first =>
  have H := HC4.out
  clear HC4
  replace H := Option.bind_eq_some_iff.mp H
  obtain ⟨t284, A70, H⟩ := H
  replace H : (if t284 = 0 then ((impl_CodeSize.f a0_0 a0_1 a0_2).bind fun t285 => (if (l1.length : Int) = t285 then (if a2 < 0 then (impl_RepairPlan.j0 k l1 a2 true a0_0 a0_1 a0_2) else ((impl_CodeSize.f a0_0 a0_1 a0_2).bind fun t286 => (impl_RepairPlan.j0 k l1 a2 (decide (a2 ≥ t286)) a0_0 a0_1 a0_2))) else (impl_RepairPlan.j0 k l1 a2 true a0_0 a0_1 a0_2))) else (impl_RepairPlan.j0 k l1 a2 true a0_0 a0_1 a0_2)) = some (r1, r2) := H
  have A7 := Aside0.mk A70
  clear A70
  by_cases c8 : t284 = 0
  rotate_left
  ·
   rw [if_neg c8] at H
   have c8b0 : (t284 == 0) = false := beq_eq_false_iff_ne.mpr c8
   have c8b1 : (t284 != 0) = true := bne_iff_ne.mpr c8
   (first | rw [c8b0] | rw [c8b1] | (simp only [i64_w, i32_w]; rw [c8b0]) | skip)
   have H' := Aside0.mk H
   clear H
   have hnb30 := NB282_283.out
   have hnc30 := NB283_282.out
   have hcz31_0 : w6.cell? ⟨gb282, 0, none⟩ = some (.int .i64 a0_0) := (blk_cell BK282.out 0).trans rfl
   have hcz31_1 : w6.cell? ⟨gb282, 1, none⟩ = some (.int .i64 a0_1) := (blk_cell BK282.out 1).trans rfl
   have hcz31_2 : w6.cell? ⟨gb282, 2, none⟩ = some (.int .i64 a0_2) := (blk_cell BK282.out 2).trans rfl
   have hfz31_0 := blk_frozen BK282.out 0
   have hfz31_1 := blk_frozen BK282.out 1
   have hfz31_2 := blk_frozen BK282.out 2
   go_wp2_with (first | ((with_reducible refine gate_callee (f := 17) rfl ?_); refine goesL_ (some 14) rfl rfl Try.func17 (by kernel_rfl) rfl #[.agg #[.int .i64 a0_0, .int .i64 a0_1, .int .i64 a0_2]] rfl (by (try simp only [List.map_toArray, List.map_cons, List.map_nil]); first | done | rfl | (simp only [List.length_drop, List.length_take]; rfl)) ?_; (with_reducible refine (impl_CodeFault.calls a0_0 a0_1 a0_2 t284 _ A7.out).mono ?_); rintro e w32 ⟨rfl, hb⟩; refine ⟨_, rfl, ?_⟩; have n0_ := Aside0.mk (blk_below (g := gb282) (o := .cells #[.int .i64 a0_0, .int .i64 a0_1, .int .i64 a0_2] 29 (0, 0)) (by first | exact Grow.bk BK282.out | exact BK282.out) hb); have n1_ := Aside0.mk (blk_below (g := gb283) (o := .cells #[.int .i64 0, .slice none 0 0] 27 (0, 0)) (by first | exact Grow.bk BK283.out | exact BK283.out) hb); have n2_ := Aside0.mk (below_step (by repeat (first | (with_reducible first | exact HB.out | apply below_alloc | apply pw_below_drewN | apply below_drew1 | refine below_set ?_ GE282.out | refine below_set ?_ GE283.out) | exact HB.out)) hb); clear BK282; clear BK283; clear HB; have BK282 := n0_; have BK283 := n1_; have HB := n2_; clear n0_ n1_ n2_; (try clear hb); (try clear hb2); (try clear hk); (try clear hi)))
   go_meet
   case rel => exact ⟨_, (true), (by first | rfl | (simp; done) | (simp [*]; done)), H', ⟨by first | omega | exact Nat.le_refl _⟩, ⟨by first | exact Grow.bk BK282.out | exact BK282.out⟩, ⟨by first | exact Grow.bk BK283.out | exact BK283.out⟩, ⟨by repeat (first | (with_reducible first | exact HB.out | apply below_alloc | apply pw_below_drewN | apply below_drew1 | refine below_set ?_ GE282.out | refine below_set ?_ GE283.out) | exact HB.out)⟩⟩
  rw [if_pos c8] at H
  have c8b0 : (t284 == 0) = true := beq_iff_eq.mpr c8
  have c8b1 : (t284 != 0) = false := bne_eq_false_iff_eq.mpr c8
  clear c8
  (first | rw [c8b0] | rw [c8b1] | (simp only [i64_w, i32_w]; rw [c8b0]) | skip)
  replace H := Option.bind_eq_some_iff.mp H
  obtain ⟨t285, A90, H⟩ := H
  replace H : (if (l1.length : Int) = t285 then (if a2 < 0 then (impl_RepairPlan.j0 k l1 a2 true a0_0 a0_1 a0_2) else ((impl_CodeSize.f a0_0 a0_1 a0_2).bind fun t286 => (impl_RepairPlan.j0 k l1 a2 (decide (a2 ≥ t286)) a0_0 a0_1 a0_2))) else (impl_RepairPlan.j0 k l1 a2 true a0_0 a0_1 a0_2)) = some (r1, r2) := H
  have A9 := Aside0.mk A90
  clear A90
  by_cases c10 : (l1.length : Int) = t285
  rotate_left
  ·
   rw [if_neg c10] at H
   have c10b0 : ((l1.length : Int) == t285) = false := beq_eq_false_iff_ne.mpr c10
   have c10b1 : ((l1.length : Int) != t285) = true := bne_iff_ne.mpr c10
   have H' := Aside0.mk H
   clear H
   have hnb25 := NB282_283.out
   have hnc25 := NB283_282.out
   have hcz26_0 : w6.cell? ⟨gb282, 0, none⟩ = some (.int .i64 a0_0) := (blk_cell BK282.out 0).trans rfl
   have hcz26_1 : w6.cell? ⟨gb282, 1, none⟩ = some (.int .i64 a0_1) := (blk_cell BK282.out 1).trans rfl
   have hcz26_2 : w6.cell? ⟨gb282, 2, none⟩ = some (.int .i64 a0_2) := (blk_cell BK282.out 2).trans rfl
   have hfz26_0 := blk_frozen BK282.out 0
   have hfz26_1 := blk_frozen BK282.out 1
   have hfz26_2 := blk_frozen BK282.out 2
   go_wp2_with (first | ((with_reducible refine gate_callee (f := 17) rfl ?_); refine goesL_ (some 14) rfl rfl Try.func17 (by kernel_rfl) rfl #[.agg #[.int .i64 a0_0, .int .i64 a0_1, .int .i64 a0_2]] rfl (by (try simp only [List.map_toArray, List.map_cons, List.map_nil]); first | done | rfl | (simp only [List.length_drop, List.length_take]; rfl)) ?_; (with_reducible refine (impl_CodeFault.calls a0_0 a0_1 a0_2 t284 _ A7.out).mono ?_); rintro e w27 ⟨rfl, hb⟩; refine ⟨_, rfl, ?_⟩; have n0_ := Aside0.mk (blk_below (g := gb282) (o := .cells #[.int .i64 a0_0, .int .i64 a0_1, .int .i64 a0_2] 29 (0, 0)) (by first | exact Grow.bk BK282.out | exact BK282.out) hb); have n1_ := Aside0.mk (blk_below (g := gb283) (o := .cells #[.int .i64 0, .slice none 0 0] 27 (0, 0)) (by first | exact Grow.bk BK283.out | exact BK283.out) hb); have n2_ := Aside0.mk (below_step (by repeat (first | (with_reducible first | exact HB.out | apply below_alloc | apply pw_below_drewN | apply below_drew1 | refine below_set ?_ GE282.out | refine below_set ?_ GE283.out) | exact HB.out)) hb); clear BK282; clear BK283; clear HB; have BK282 := n0_; have BK283 := n1_; have HB := n2_; clear n0_ n1_ n2_; (try clear hb); (try clear hb2); (try clear hk); (try clear hi); have hcz28_0 : w27.cell? ⟨gb282, 0, none⟩ = some (.int .i64 a0_0) := (blk_cell BK282.out 0).trans rfl; have hcz28_1 : w27.cell? ⟨gb282, 1, none⟩ = some (.int .i64 a0_1) := (blk_cell BK282.out 1).trans rfl; have hcz28_2 : w27.cell? ⟨gb282, 2, none⟩ = some (.int .i64 a0_2) := (blk_cell BK282.out 2).trans rfl; have hfz28_0 := blk_frozen BK282.out 0; have hfz28_1 := blk_frozen BK282.out 1; have hfz28_2 := blk_frozen BK282.out 2) | (go_at_call 18; (with_reducible refine (impl_CodeSize.calls a0_0 a0_1 a0_2 t285 _ A9.out).mono ?_); rintro e w29 ⟨rfl, hb⟩; have n0_ := Aside0.mk (blk_below (g := gb282) (o := .cells #[.int .i64 a0_0, .int .i64 a0_1, .int .i64 a0_2] 29 (0, 0)) (by first | exact Grow.bk BK282.out | exact BK282.out) hb); have n1_ := Aside0.mk (blk_below (g := gb283) (o := .cells #[.int .i64 0, .slice none 0 0] 27 (0, 0)) (by first | exact Grow.bk BK283.out | exact BK283.out) hb); have n2_ := Aside0.mk (below_step (by repeat (first | (with_reducible first | exact HB.out | apply below_alloc | apply pw_below_drewN | apply below_drew1 | refine below_set ?_ GE282.out | refine below_set ?_ GE283.out) | exact HB.out)) hb); clear BK282; clear BK283; clear HB; have BK282 := n0_; have BK283 := n1_; have HB := n2_; clear n0_ n1_ n2_; (try clear hb); (try clear hb2); (try clear hk); (try clear hi)))
   go_meet
   case rel => exact ⟨_, (true), (by first | rfl | (simp; done) | (simp [*]; done)), H', ⟨by first | omega | exact Nat.le_refl _⟩, ⟨by first | exact Grow.bk BK282.out | exact BK282.out⟩, ⟨by first | exact Grow.bk BK283.out | exact BK283.out⟩, ⟨by repeat (first | (with_reducible first | exact HB.out | apply below_alloc | apply pw_below_drewN | apply below_drew1 | refine below_set ?_ GE282.out | refine below_set ?_ GE283.out) | exact HB.out)⟩⟩
  rw [if_pos c10] at H
  have c10b0 : ((l1.length : Int) == t285) = true := beq_iff_eq.mpr c10
  have c10b1 : ((l1.length : Int) != t285) = false := bne_eq_false_iff_eq.mpr c10
  clear c10
  by_cases c11 : a2 < 0
  ·
   rw [if_pos c11] at H
   have c11b0 : decide (a2 < 0) = true := decide_eq_true c11
   clear c11
   have H' := Aside0.mk H
   clear H
   have hnb12 := NB282_283.out
   have hnc12 := NB283_282.out
   have hcz13_0 : w6.cell? ⟨gb282, 0, none⟩ = some (.int .i64 a0_0) := (blk_cell BK282.out 0).trans rfl
   have hcz13_1 : w6.cell? ⟨gb282, 1, none⟩ = some (.int .i64 a0_1) := (blk_cell BK282.out 1).trans rfl
   have hcz13_2 : w6.cell? ⟨gb282, 2, none⟩ = some (.int .i64 a0_2) := (blk_cell BK282.out 2).trans rfl
   have hfz13_0 := blk_frozen BK282.out 0
   have hfz13_1 := blk_frozen BK282.out 1
   have hfz13_2 := blk_frozen BK282.out 2
   go_wp2_with (first | ((with_reducible refine gate_callee (f := 17) rfl ?_); refine goesL_ (some 14) rfl rfl Try.func17 (by kernel_rfl) rfl #[.agg #[.int .i64 a0_0, .int .i64 a0_1, .int .i64 a0_2]] rfl (by (try simp only [List.map_toArray, List.map_cons, List.map_nil]); first | done | rfl | (simp only [List.length_drop, List.length_take]; rfl)) ?_; (with_reducible refine (impl_CodeFault.calls a0_0 a0_1 a0_2 t284 _ A7.out).mono ?_); rintro e w14 ⟨rfl, hb⟩; refine ⟨_, rfl, ?_⟩; have n0_ := Aside0.mk (blk_below (g := gb282) (o := .cells #[.int .i64 a0_0, .int .i64 a0_1, .int .i64 a0_2] 29 (0, 0)) (by first | exact Grow.bk BK282.out | exact BK282.out) hb); have n1_ := Aside0.mk (blk_below (g := gb283) (o := .cells #[.int .i64 0, .slice none 0 0] 27 (0, 0)) (by first | exact Grow.bk BK283.out | exact BK283.out) hb); have n2_ := Aside0.mk (below_step (by repeat (first | (with_reducible first | exact HB.out | apply below_alloc | apply pw_below_drewN | apply below_drew1 | refine below_set ?_ GE282.out | refine below_set ?_ GE283.out) | exact HB.out)) hb); clear BK282; clear BK283; clear HB; have BK282 := n0_; have BK283 := n1_; have HB := n2_; clear n0_ n1_ n2_; (try clear hb); (try clear hb2); (try clear hk); (try clear hi); have hcz15_0 : w14.cell? ⟨gb282, 0, none⟩ = some (.int .i64 a0_0) := (blk_cell BK282.out 0).trans rfl; have hcz15_1 : w14.cell? ⟨gb282, 1, none⟩ = some (.int .i64 a0_1) := (blk_cell BK282.out 1).trans rfl; have hcz15_2 : w14.cell? ⟨gb282, 2, none⟩ = some (.int .i64 a0_2) := (blk_cell BK282.out 2).trans rfl; have hfz15_0 := blk_frozen BK282.out 0; have hfz15_1 := blk_frozen BK282.out 1; have hfz15_2 := blk_frozen BK282.out 2) | (go_at_call 18; (with_reducible refine (impl_CodeSize.calls a0_0 a0_1 a0_2 t285 _ A9.out).mono ?_); rintro e w16 ⟨rfl, hb⟩; have n0_ := Aside0.mk (blk_below (g := gb282) (o := .cells #[.int .i64 a0_0, .int .i64 a0_1, .int .i64 a0_2] 29 (0, 0)) (by first | exact Grow.bk BK282.out | exact BK282.out) hb); have n1_ := Aside0.mk (blk_below (g := gb283) (o := .cells #[.int .i64 0, .slice none 0 0] 27 (0, 0)) (by first | exact Grow.bk BK283.out | exact BK283.out) hb); have n2_ := Aside0.mk (below_step (by repeat (first | (with_reducible first | exact HB.out | apply below_alloc | apply pw_below_drewN | apply below_drew1 | refine below_set ?_ GE282.out | refine below_set ?_ GE283.out) | exact HB.out)) hb); clear BK282; clear BK283; clear HB; have BK282 := n0_; have BK283 := n1_; have HB := n2_; clear n0_ n1_ n2_; (try clear hb); (try clear hb2); (try clear hk); (try clear hi)))
   go_meet
   case rel => exact ⟨_, (true), (by first | rfl | (simp; done) | (simp [*]; done)), H', ⟨by first | omega | exact Nat.le_refl _⟩, ⟨by first | exact Grow.bk BK282.out | exact BK282.out⟩, ⟨by first | exact Grow.bk BK283.out | exact BK283.out⟩, ⟨by repeat (first | (with_reducible first | exact HB.out | apply below_alloc | apply pw_below_drewN | apply below_drew1 | refine below_set ?_ GE282.out | refine below_set ?_ GE283.out) | exact HB.out)⟩⟩
  rw [if_neg c11] at H
  have c11b0 : decide (a2 < 0) = false := decide_eq_false c11
  clear c11
  replace H := Option.bind_eq_some_iff.mp H
  obtain ⟨t286, A170, H⟩ := H
  obtain rfl : t285 = t286 := Option.some.inj (A9.out.symm.trans A170)
  replace H : (impl_RepairPlan.j0 k l1 a2 (decide (a2 ≥ t285)) a0_0 a0_1 a0_2) = some (r1, r2) := H
  have A17 := Aside0.mk A170
  clear A170
  have H' := Aside0.mk H
  clear H
  have hnb18 := NB282_283.out
  have hnc18 := NB283_282.out
  have hcz19_0 : w6.cell? ⟨gb282, 0, none⟩ = some (.int .i64 a0_0) := (blk_cell BK282.out 0).trans rfl
  have hcz19_1 : w6.cell? ⟨gb282, 1, none⟩ = some (.int .i64 a0_1) := (blk_cell BK282.out 1).trans rfl
  have hcz19_2 : w6.cell? ⟨gb282, 2, none⟩ = some (.int .i64 a0_2) := (blk_cell BK282.out 2).trans rfl
  have hfz19_0 := blk_frozen BK282.out 0
  have hfz19_1 := blk_frozen BK282.out 1
  have hfz19_2 := blk_frozen BK282.out 2
  go_wp2_with (first | ((with_reducible refine gate_callee (f := 17) rfl ?_); refine goesL_ (some 14) rfl rfl Try.func17 (by kernel_rfl) rfl #[.agg #[.int .i64 a0_0, .int .i64 a0_1, .int .i64 a0_2]] rfl (by (try simp only [List.map_toArray, List.map_cons, List.map_nil]); first | done | rfl | (simp only [List.length_drop, List.length_take]; rfl)) ?_; (with_reducible refine (impl_CodeFault.calls a0_0 a0_1 a0_2 t284 _ A7.out).mono ?_); rintro e w20 ⟨rfl, hb⟩; refine ⟨_, rfl, ?_⟩; have n0_ := Aside0.mk (blk_below (g := gb282) (o := .cells #[.int .i64 a0_0, .int .i64 a0_1, .int .i64 a0_2] 29 (0, 0)) (by first | exact Grow.bk BK282.out | exact BK282.out) hb); have n1_ := Aside0.mk (blk_below (g := gb283) (o := .cells #[.int .i64 0, .slice none 0 0] 27 (0, 0)) (by first | exact Grow.bk BK283.out | exact BK283.out) hb); have n2_ := Aside0.mk (below_step (by repeat (first | (with_reducible first | exact HB.out | apply below_alloc | apply pw_below_drewN | apply below_drew1 | refine below_set ?_ GE282.out | refine below_set ?_ GE283.out) | exact HB.out)) hb); clear BK282; clear BK283; clear HB; have BK282 := n0_; have BK283 := n1_; have HB := n2_; clear n0_ n1_ n2_; (try clear hb); (try clear hb2); (try clear hk); (try clear hi); have hcz21_0 : w20.cell? ⟨gb282, 0, none⟩ = some (.int .i64 a0_0) := (blk_cell BK282.out 0).trans rfl; have hcz21_1 : w20.cell? ⟨gb282, 1, none⟩ = some (.int .i64 a0_1) := (blk_cell BK282.out 1).trans rfl; have hcz21_2 : w20.cell? ⟨gb282, 2, none⟩ = some (.int .i64 a0_2) := (blk_cell BK282.out 2).trans rfl; have hfz21_0 := blk_frozen BK282.out 0; have hfz21_1 := blk_frozen BK282.out 1; have hfz21_2 := blk_frozen BK282.out 2) | (go_at_call 18; (with_reducible refine (impl_CodeSize.calls a0_0 a0_1 a0_2 t285 _ A9.out).mono ?_); rintro e w22 ⟨rfl, hb⟩; have n0_ := Aside0.mk (blk_below (g := gb282) (o := .cells #[.int .i64 a0_0, .int .i64 a0_1, .int .i64 a0_2] 29 (0, 0)) (by first | exact Grow.bk BK282.out | exact BK282.out) hb); have n1_ := Aside0.mk (blk_below (g := gb283) (o := .cells #[.int .i64 0, .slice none 0 0] 27 (0, 0)) (by first | exact Grow.bk BK283.out | exact BK283.out) hb); have n2_ := Aside0.mk (below_step (by repeat (first | (with_reducible first | exact HB.out | apply below_alloc | apply pw_below_drewN | apply below_drew1 | refine below_set ?_ GE282.out | refine below_set ?_ GE283.out) | exact HB.out)) hb); clear BK282; clear BK283; clear HB; have BK282 := n0_; have BK283 := n1_; have HB := n2_; clear n0_ n1_ n2_; (try clear hb); (try clear hb2); (try clear hk); (try clear hi); have hcz23_0 : w22.cell? ⟨gb282, 0, none⟩ = some (.int .i64 a0_0) := (blk_cell BK282.out 0).trans rfl; have hcz23_1 : w22.cell? ⟨gb282, 1, none⟩ = some (.int .i64 a0_1) := (blk_cell BK282.out 1).trans rfl; have hcz23_2 : w22.cell? ⟨gb282, 2, none⟩ = some (.int .i64 a0_2) := (blk_cell BK282.out 2).trans rfl; have hfz23_0 := blk_frozen BK282.out 0; have hfz23_1 := blk_frozen BK282.out 1; have hfz23_2 := blk_frozen BK282.out 2) | (go_at_call 18; (with_reducible refine (impl_CodeSize.calls a0_0 a0_1 a0_2 t285 _ A17.out).mono ?_); rintro e w24 ⟨rfl, hb⟩; have n0_ := Aside0.mk (blk_below (g := gb282) (o := .cells #[.int .i64 a0_0, .int .i64 a0_1, .int .i64 a0_2] 29 (0, 0)) (by first | exact Grow.bk BK282.out | exact BK282.out) hb); have n1_ := Aside0.mk (blk_below (g := gb283) (o := .cells #[.int .i64 0, .slice none 0 0] 27 (0, 0)) (by first | exact Grow.bk BK283.out | exact BK283.out) hb); have n2_ := Aside0.mk (below_step (by repeat (first | (with_reducible first | exact HB.out | apply below_alloc | apply pw_below_drewN | apply below_drew1 | refine below_set ?_ GE282.out | refine below_set ?_ GE283.out) | exact HB.out)) hb); clear BK282; clear BK283; clear HB; have BK282 := n0_; have BK283 := n1_; have HB := n2_; clear n0_ n1_ n2_; (try clear hb); (try clear hb2); (try clear hk); (try clear hi)))
  go_meet
  case rel => exact ⟨_, (decide (a2 ≥ t285)), (by first | rfl | (simp; done) | (simp [*]; done)), H', ⟨by first | omega | exact Nat.le_refl _⟩, ⟨by first | exact Grow.bk BK282.out | exact BK282.out⟩, ⟨by first | exact Grow.bk BK283.out | exact BK283.out⟩, ⟨by repeat (first | (with_reducible first | exact HB.out | apply below_alloc | apply pw_below_drewN | apply below_drew1 | refine below_set ?_ GE282.out | refine below_set ?_ GE283.out) | exact HB.out)⟩⟩
 case rest =>
  clear HC4
  try clear c1
  try clear c2
  try clear p2
  try clear c3
  try clear c7
  try clear c8
  try clear c8b0
  try clear c8b1
  try clear c10
  try clear c10b0
  try clear c10b1
  try clear c11
  try clear c11b0
  try clear c12
  try clear c17
  try clear c18
  try clear c25
  try clear c30
  try clear hcz13_0
  try clear hcz13_1
  try clear hcz13_2
  try clear hcz15_0
  try clear hcz15_1
  try clear hcz15_2
  try clear hcz19_0
  try clear hcz19_1
  try clear hcz19_2
  try clear hcz21_0
  try clear hcz21_1
  try clear hcz21_2
  try clear hcz23_0
  try clear hcz23_1
  try clear hcz23_2
  try clear hcz26_0
  try clear hcz26_1
  try clear hcz26_2
  try clear hcz28_0
  try clear hcz28_1
  try clear hcz28_2
  try clear hcz31_0
  try clear hcz31_1
  try clear hcz31_2
  try clear hfz13_0
  try clear hfz13_1
  try clear hfz13_2
  try clear hfz15_0
  try clear hfz15_1
  try clear hfz15_2
  try clear hfz19_0
  try clear hfz19_1
  try clear hfz19_2
  try clear hfz21_0
  try clear hfz21_1
  try clear hfz21_2
  try clear hfz23_0
  try clear hfz23_1
  try clear hfz23_2
  try clear hfz26_0
  try clear hfz26_1
  try clear hfz26_2
  try clear hfz28_0
  try clear hfz28_1
  try clear hfz28_2
  try clear hfz31_0
  try clear hfz31_1
  try clear hfz31_2
  obtain ⟨kq, x32_3, rfl, HA, HJ3, BK282, BK283, HB⟩ := hcut
  cases kq with
  | zero => exact absurd HA.out (by simp [impl_RepairPlan.j0])
  | succ kj3 =>
   have H := HA.out
   clear HA
   simp only [impl_RepairPlan.j0] at H
   by_cases c33 : x32_3 = true
   ·
    subst c33
    have H1 : (some (1, ([] : List Int))) = some (r1, r2) := by rw [if_pos rfl] at H; exact H
    clear H
    have H := H1
    clear H1
    simp only [Option.some.injEq, Prod.mk.injEq] at H
    obtain ⟨rfl, rfl⟩ := H
    have hnb34 := NB283_282.out
    have hnc34 := NB282_283.out
    have hcz35_0 : wc.cell? ⟨gb283, 0, none⟩ = some (.int .i64 0) := (blk_cell BK283.out 0).trans rfl
    have hcz35_1 : wc.cell? ⟨gb283, 1, none⟩ = some (.slice none 0 0) := (blk_cell BK283.out 1).trans rfl
    have hfz35_0 := blk_frozen BK283.out 0
    have hfz35_1 := blk_frozen BK283.out 1
    go_wp2
    refine bodyPost_ret (results_cell_row rfl _ _ gb283 27 #[.int .i64 1, .slice none 0 0] (0, 0) _ rfl (by (with_reducible repeat (first | refine blk_drewN ?_ _ | refine blk_drew ?_ | refine blk_alloc ?_ _)); refine blk_put (cs := #[.int .i64 1, .slice none 0 0]) ?_ 1 _ rfl; (with_reducible repeat (first | refine blk_drewN ?_ _ | refine blk_drew ?_ | refine blk_alloc ?_ _)); refine blk_put (cs := #[.int .i64 0, .slice none 0 0]) ?_ 0 _ rfl; (with_reducible repeat (first | refine blk_drewN ?_ _ | refine blk_drew ?_ | refine blk_alloc ?_ _)); exact BK283.out) Try.underlying27 rfl (by kernel_rfl)) rfl ?_
    exact ⟨_, by first | rfl | (simp [errW_none, errW_some] <;> rfl) | (simp [*, errW_none, errW_some] <;> rfl), by first | exact Kd.R_nil _ _ _ _ _ | exact Kd.N_nil _ _ _ _ _ | exact Kd.V_nil _ _ _ _ _ | exact Kd.Q_nil _ _ _ _ _ | exact Kd.S_nil _ _ _ _ _, by repeat (first | (with_reducible first | exact HB.out | apply below_alloc | apply pw_below_drewN | apply below_drew1 | refine below_set ?_ GE282.out | refine below_set ?_ GE283.out) | exact HB.out)⟩
   replace c33 := Bool.eq_false_iff.mpr c33
   subst c33
   have H1 : ((impl_newPlant.f a0_0 a0_1 a0_2).bind fun t287 => ((impl_plant_planOf.f kj3 t287 l1 a2).bind fun bt288 => (if bt288.2.2 = true then (impl_RepairPlan.l0 kj3 bt288.1 (bt288.1.length : Int) 0 0 ([] : List Int)) else (some (8, ([] : List Int)))))) = some (r1, r2) := by rw [if_neg (show ¬ (false = true) by decide)] at H; exact H
   clear H
   have H := H1
   clear H1
   replace H := Option.bind_eq_some_iff.mp H
   obtain ⟨t287, A360, H⟩ := H
   replace H : ((impl_plant_planOf.f kj3 t287 l1 a2).bind fun bt288 => (if bt288.2.2 = true then (impl_RepairPlan.l0 kj3 bt288.1 (bt288.1.length : Int) 0 0 ([] : List Int)) else (some (8, ([] : List Int))))) = some (r1, r2) := H
   have A36 := Aside0.mk A360
   clear A360
   replace H := Option.bind_eq_some_iff.mp H
   obtain ⟨⟨t288, t289, t290⟩, A370, H⟩ := H
   replace H : (if t290 = true then (impl_RepairPlan.l0 kj3 t288 (t288.length : Int) 0 0 ([] : List Int)) else (some (8, ([] : List Int)))) = some (r1, r2) := H
   have A37 := Aside0.mk A370
   clear A370
   by_cases c38 : t290 = true
   rotate_left
   ·
    replace c38 := Bool.eq_false_iff.mpr c38
    subst c38
    have H1 : (some (8, ([] : List Int))) = some (r1, r2) := by rw [if_neg (show ¬ (false = true) by decide)] at H; exact H
    clear H
    have H := H1
    clear H1
    simp only [Option.some.injEq, Prod.mk.injEq] at H
    obtain ⟨rfl, rfl⟩ := H
    have hnb64 := NB282_283.out
    have hnc64 := NB283_282.out
    have hcz65_0 : wc.cell? ⟨gb282, 0, none⟩ = some (.int .i64 a0_0) := (blk_cell BK282.out 0).trans rfl
    have hcz65_1 : wc.cell? ⟨gb282, 1, none⟩ = some (.int .i64 a0_1) := (blk_cell BK282.out 1).trans rfl
    have hcz65_2 : wc.cell? ⟨gb282, 2, none⟩ = some (.int .i64 a0_2) := (blk_cell BK282.out 2).trans rfl
    have hfz65_0 := blk_frozen BK282.out 0
    have hfz65_1 := blk_frozen BK282.out 1
    have hfz65_2 := blk_frozen BK282.out 2
    go_wp2_with (first | ((with_reducible refine gate_callee (f := 19) rfl ?_); refine goesL_ (some 36) rfl rfl Try.func19 (by kernel_rfl) rfl #[.agg #[.int .i64 a0_0, .int .i64 a0_1, .int .i64 a0_2]] rfl (by (try simp only [List.map_toArray, List.map_cons, List.map_nil]); first | done | rfl | (simp only [List.length_drop, List.length_take]; rfl)) ?_; (with_reducible refine (impl_newPlant.calls a0_0 a0_1 a0_2 t287 _ A36.out).mono ?_); rintro e w66 ⟨gP, rfl, hgP_, hP_, hb⟩; refine ⟨_, rfl, ?_⟩; have HP := Aside0.mk hP_; clear hP_ hgP_; have n0_ := Aside0.mk (blk_below (g := gb282) (o := .cells #[.int .i64 a0_0, .int .i64 a0_1, .int .i64 a0_2] 29 (0, 0)) (by first | exact Grow.bk BK282.out | exact BK282.out) hb); have n1_ := Aside0.mk (blk_below (g := gb283) (o := .cells #[.int .i64 0, .slice none 0 0] 27 (0, 0)) (by first | exact Grow.bk BK283.out | exact BK283.out) hb); have n2_ := Aside0.mk (below_step (by repeat (first | (with_reducible first | exact HB.out | apply below_alloc | apply pw_below_drewN | apply below_drew1 | refine below_set ?_ GE282.out | refine below_set ?_ GE283.out) | exact HB.out)) hb); clear BK282; clear BK283; clear HB; have BK282 := n0_; have BK283 := n1_; have HB := n2_; clear n0_ n1_ n2_; (try clear hb); (try clear hb2); (try clear hk); (try clear hi)) | ((with_reducible refine gate_callee (f := 20) rfl ?_); refine goesL_ (some 39) rfl rfl Try.func20 (by kernel_rfl) rfl #[.pointer (some ⟨gP, 0, none⟩), .slice A1 l1.length c1, .int .i64 a2] rfl (by (try simp only [List.map_toArray, List.map_cons, List.map_nil]); first | done | rfl | (simp only [List.length_drop, List.length_take]; rfl)) ?_; (with_reducible refine (impl_plant_planOf.calls kj3 gP _ _ l1 a2 t288 t289 false _ ?side1 ?side2 A37.out HP.out).mono ?_); (case side1 => first | exact Grow.cb HR1.out HB.out | exact Kd.C_below HR1.out HB.out); (case side2 => exact HC1.out); rintro e w67 ⟨v291, rfl, ho0, hb⟩; refine ⟨_, rfl, ?_⟩; have n0_ := Aside0.mk (Kd.R_lower ho0 (below_size (by repeat (first | (with_reducible first | exact HB.out | apply below_alloc | apply pw_below_drewN | apply below_drew1 | refine below_set ?_ GE282.out | refine below_set ?_ GE283.out) | exact HB.out)))); have n1_ := Aside0.mk (blk_below (g := gb282) (o := .cells #[.int .i64 a0_0, .int .i64 a0_1, .int .i64 a0_2] 29 (0, 0)) (by first | exact Grow.bk BK282.out | exact BK282.out) hb); have n2_ := Aside0.mk (blk_below (g := gb283) (o := .cells #[.int .i64 0, .slice none 0 0] 27 (0, 0)) (by first | exact Grow.bk BK283.out | exact BK283.out) hb); have n3_ := Aside0.mk (below_step (by repeat (first | (with_reducible first | exact HB.out | apply below_alloc | apply pw_below_drewN | apply below_drew1 | refine below_set ?_ GE282.out | refine below_set ?_ GE283.out) | exact HB.out)) hb); clear BK282; clear BK283; clear HB; have HO292 := n0_; have BK282 := n1_; have BK283 := n2_; have HB := n3_; clear n0_ n1_ n2_ n3_; (try clear hb); (try clear hb2); (try clear hk); (try clear hi); (try clear ho0); have hcz68_0 : w67.cell? ⟨gb283, 0, none⟩ = some (.int .i64 0) := (blk_cell BK283.out 0).trans rfl; have hcz68_1 : w67.cell? ⟨gb283, 1, none⟩ = some (.slice none 0 0) := (blk_cell BK283.out 1).trans rfl; have hfz68_0 := blk_frozen BK283.out 0; have hfz68_1 := blk_frozen BK283.out 1))
    refine bodyPost_ret (results_cell_row rfl _ _ gb283 27 #[.int .i64 8, .slice none 0 0] (0, 0) _ rfl (by (with_reducible repeat (first | refine blk_drewN ?_ _ | refine blk_drew ?_ | refine blk_alloc ?_ _)); refine blk_put (cs := #[.int .i64 8, .slice none 0 0]) ?_ 1 _ rfl; (with_reducible repeat (first | refine blk_drewN ?_ _ | refine blk_drew ?_ | refine blk_alloc ?_ _)); refine blk_put (cs := #[.int .i64 0, .slice none 0 0]) ?_ 0 _ rfl; (with_reducible repeat (first | refine blk_drewN ?_ _ | refine blk_drew ?_ | refine blk_alloc ?_ _)); exact BK283.out) Try.underlying27 rfl (by kernel_rfl)) rfl ?_
    exact ⟨_, by first | rfl | (simp [errW_none, errW_some] <;> rfl) | (simp [*, errW_none, errW_some] <;> rfl), by first | exact Kd.R_nil _ _ _ _ _ | exact Kd.N_nil _ _ _ _ _ | exact Kd.V_nil _ _ _ _ _ | exact Kd.Q_nil _ _ _ _ _ | exact Kd.S_nil _ _ _ _ _, by repeat (first | (with_reducible first | exact HB.out | apply below_alloc | apply pw_below_drewN | apply below_drew1 | refine below_set ?_ GE282.out | refine below_set ?_ GE283.out) | exact HB.out)⟩
   subst c38
   have H1 : (impl_RepairPlan.l0 kj3 t288 (t288.length : Int) 0 0 ([] : List Int)) = some (r1, r2) := by rw [if_pos rfl] at H; exact H
   clear H
   have H := H1
   clear H1
   have H' := Aside0.mk H
   clear H
   have hnb39 := NB282_283.out
   have hnc39 := NB283_282.out
   have hcz40_0 : wc.cell? ⟨gb282, 0, none⟩ = some (.int .i64 a0_0) := (blk_cell BK282.out 0).trans rfl
   have hcz40_1 : wc.cell? ⟨gb282, 1, none⟩ = some (.int .i64 a0_1) := (blk_cell BK282.out 1).trans rfl
   have hcz40_2 : wc.cell? ⟨gb282, 2, none⟩ = some (.int .i64 a0_2) := (blk_cell BK282.out 2).trans rfl
   have hfz40_0 := blk_frozen BK282.out 0
   have hfz40_1 := blk_frozen BK282.out 1
   have hfz40_2 := blk_frozen BK282.out 2
   go_wp2_with (first | ((with_reducible refine gate_callee (f := 19) rfl ?_); refine goesL_ (some 36) rfl rfl Try.func19 (by kernel_rfl) rfl #[.agg #[.int .i64 a0_0, .int .i64 a0_1, .int .i64 a0_2]] rfl (by (try simp only [List.map_toArray, List.map_cons, List.map_nil]); first | done | rfl | (simp only [List.length_drop, List.length_take]; rfl)) ?_; (with_reducible refine (impl_newPlant.calls a0_0 a0_1 a0_2 t287 _ A36.out).mono ?_); rintro e w41 ⟨gP, rfl, hgP_, hP_, hb⟩; refine ⟨_, rfl, ?_⟩; have HP := Aside0.mk hP_; clear hP_ hgP_; have n0_ := Aside0.mk (blk_below (g := gb282) (o := .cells #[.int .i64 a0_0, .int .i64 a0_1, .int .i64 a0_2] 29 (0, 0)) (by first | exact Grow.bk BK282.out | exact BK282.out) hb); have n1_ := Aside0.mk (blk_below (g := gb283) (o := .cells #[.int .i64 0, .slice none 0 0] 27 (0, 0)) (by first | exact Grow.bk BK283.out | exact BK283.out) hb); have n2_ := Aside0.mk (below_step (by repeat (first | (with_reducible first | exact HB.out | apply below_alloc | apply pw_below_drewN | apply below_drew1 | refine below_set ?_ GE282.out | refine below_set ?_ GE283.out) | exact HB.out)) hb); clear BK282; clear BK283; clear HB; have BK282 := n0_; have BK283 := n1_; have HB := n2_; clear n0_ n1_ n2_; (try clear hb); (try clear hb2); (try clear hk); (try clear hi)) | ((with_reducible refine gate_callee (f := 20) rfl ?_); refine goesL_ (some 39) rfl rfl Try.func20 (by kernel_rfl) rfl #[.pointer (some ⟨gP, 0, none⟩), .slice A1 l1.length c1, .int .i64 a2] rfl (by (try simp only [List.map_toArray, List.map_cons, List.map_nil]); first | done | rfl | (simp only [List.length_drop, List.length_take]; rfl)) ?_; (with_reducible refine (impl_plant_planOf.calls kj3 gP _ _ l1 a2 t288 t289 true _ ?side1 ?side2 A37.out HP.out).mono ?_); (case side1 => first | exact Grow.cb HR1.out HB.out | exact Kd.C_below HR1.out HB.out); (case side2 => exact HC1.out); rintro e w42 ⟨v291, rfl, ho0, hb⟩; refine ⟨_, rfl, ?_⟩; have n0_ := Aside0.mk (Kd.R_lower ho0 (below_size (by repeat (first | (with_reducible first | exact HB.out | apply below_alloc | apply pw_below_drewN | apply below_drew1 | refine below_set ?_ GE282.out | refine below_set ?_ GE283.out) | exact HB.out)))); have n1_ := Aside0.mk (blk_below (g := gb282) (o := .cells #[.int .i64 a0_0, .int .i64 a0_1, .int .i64 a0_2] 29 (0, 0)) (by first | exact Grow.bk BK282.out | exact BK282.out) hb); have n2_ := Aside0.mk (blk_below (g := gb283) (o := .cells #[.int .i64 0, .slice none 0 0] 27 (0, 0)) (by first | exact Grow.bk BK283.out | exact BK283.out) hb); have n3_ := Aside0.mk (below_step (by repeat (first | (with_reducible first | exact HB.out | apply below_alloc | apply pw_below_drewN | apply below_drew1 | refine below_set ?_ GE282.out | refine below_set ?_ GE283.out) | exact HB.out)) hb); clear BK282; clear BK283; clear HB; have HO292 := n0_; have BK282 := n1_; have BK283 := n2_; have HB := n3_; clear n0_ n1_ n2_ n3_; (try clear hb); (try clear hb2); (try clear hk); (try clear hi); (try clear ho0)) | ((with_reducible refine gate_dst (N := 10) rfl ?_); (try (refine gate_guard (by rfl) ?_; dsimp only)); refine box_event ?hg (N := 10) ?hd (cs := #[.int .i64 0, .slice none 0 0]) (t := 27) ?hr ?_; (case hd => rfl); (case hg => rfl); (case hr => first | (go_simp; done) | (go_simp; rfl)); intro gb293 hg w43 hbox hb; have n0_ := Aside0.mk (Kd.R_below (by first | exact Grow.rg HO292.out | exact HO292.out) hb); have n1_ := Aside0.mk (blk_below (g := gb282) (o := .cells #[.int .i64 a0_0, .int .i64 a0_1, .int .i64 a0_2] 29 (0, 0)) (by first | exact Grow.bk BK282.out | exact BK282.out) hb); have n2_ := Aside0.mk (blk_below (g := gb283) (o := .cells #[.int .i64 0, .slice none 0 0] 27 (0, 0)) (by first | exact Grow.bk BK283.out | exact BK283.out) hb); have n3_ := Aside0.mk (below_step (by repeat (first | (with_reducible first | exact HB.out | apply below_alloc | apply pw_below_drewN | apply below_drew1 | refine below_set ?_ GE282.out | refine below_set ?_ GE283.out) | exact HB.out)) hb); have n4_ := Aside0.mk (hbox); have n5_ := Aside0.mk ((by rw [hg]; exact (below_size (by repeat (first | (with_reducible first | exact HB.out | apply below_alloc | apply pw_below_drewN | apply below_drew1 | refine below_set ?_ GE282.out | refine below_set ?_ GE283.out) | exact HB.out))) : w.heap.size ≤ gb293)); have n6_ := Aside0.mk ((by rw [hg]; exact (below_size (by repeat (first | (with_reducible first | exact HB.out | apply below_alloc | apply pw_below_drewN | apply below_drew1 | refine below_set ?_ GE282.out | refine below_set ?_ GE283.out) | exact HB.out))) : w.heap.size ≤ gb293)); have n7_ := Aside0.mk ((by rw [hg]; exact Nat.ne_of_lt (blk_lt (g := gb282) (o := .cells #[.int .i64 a0_0, .int .i64 a0_1, .int .i64 a0_2] 29 (0, 0)) (by first | exact Grow.bk BK282.out | exact BK282.out)) : gb282 ≠ gb293)); have n8_ := Aside0.mk ((by rw [hg]; exact Nat.ne_of_gt (blk_lt (g := gb282) (o := .cells #[.int .i64 a0_0, .int .i64 a0_1, .int .i64 a0_2] 29 (0, 0)) (by first | exact Grow.bk BK282.out | exact BK282.out)) : gb293 ≠ gb282)); have n9_ := Aside0.mk ((by rw [hg]; exact Nat.ne_of_lt (blk_lt (g := gb283) (o := .cells #[.int .i64 0, .slice none 0 0] 27 (0, 0)) (by first | exact Grow.bk BK283.out | exact BK283.out)) : gb283 ≠ gb293)); have n10_ := Aside0.mk ((by rw [hg]; exact Nat.ne_of_gt (blk_lt (g := gb283) (o := .cells #[.int .i64 0, .slice none 0 0] 27 (0, 0)) (by first | exact Grow.bk BK283.out | exact BK283.out)) : gb293 ≠ gb283)); clear HO292; clear BK282; clear BK283; clear HB; have HO292 := n0_; have BK282 := n1_; have BK283 := n2_; have HB := n3_; have BK293 := n4_; have GW293 := n5_; have GE293 := n6_; have NB282_293 := n7_; have NB293_282 := n8_; have NB283_293 := n9_; have NB293_283 := n10_; clear n0_ n1_ n2_ n3_ n4_ n5_ n6_ n7_ n8_ n9_ n10_; clear hb hbox hg; have hnb44 := NB293_282.out; have hnc44 := NB282_293.out; have hnb45 := NB293_283.out; have hnc45 := NB283_293.out; have hcz46_0 : w43.cell? ⟨gb293, 0, none⟩ = some (.int .i64 0) := (blk_cell BK293.out 0).trans rfl; have hcz46_1 : w43.cell? ⟨gb293, 1, none⟩ = some (.slice none 0 0) := (blk_cell BK293.out 1).trans rfl; have hfz46_0 := blk_frozen BK293.out 0; have hfz46_1 := blk_frozen BK293.out 1; obtain ⟨Ao47, co47, eo47⟩ := Kd.R_slice HO292.out; subst eo47))
   go_loopg [49] kj3 (fun kq v49 w' => ∃ (x49_2 : Int) (x294001_2 : List Int) (u294001 : Value), v49 = .int .i64 x49_2 ∧ Aside0 (impl_RepairPlan.l0 kq t288 (t288.length : Int) x49_2 0 x294001_2 = some (r1, r2)) ∧ Aside0 (kq ≤ kj3) ∧ Aside0 (Kd.R (Kd.int .i64) 3 w' w.heap.size (fun _ => True) (.slice Ao47 t288.length co47) t288) ∧ Aside0 (Kd.R (Kd.int .i64) 2 w' w.heap.size (fun _ => True) u294001 x294001_2) ∧ Aside0 (w'.heap[gb282]? = some (.cells #[.int .i64 a0_0, .int .i64 a0_1, .int .i64 a0_2] 29 (0, 0))) ∧ Aside0 (w'.heap[gb283]? = some (.cells #[.int .i64 0, (.slice none 0 0)] 27 (0, 0))) ∧ Aside0 (w'.heap[gb293]? = some (.cells #[.int .i64 0, u294001] 27 (0, 0))) ∧ Aside0 (Below w.heap.size w w'))
   case atStart => exact ⟨(0), (([] : List Int)), (.slice none 0 0), (by first | rfl | (simp; done) | (simp [*]; done)), H', ⟨Nat.le_refl _⟩, ⟨by (with_reducible repeat (first | apply Kd.R_alloc | apply Kd.R_drewN | apply Kd.R_drew)); exact Kd.R_mono (Kd.R_far (p := ⟨gb293, 1, none⟩) (Kd.R_far (p := ⟨gb293, 0, none⟩) (Kd.R_types HO292.out BK293.out (by decide)) (fun _ hk => hk.2) (.int .i64 0)) (fun _ hk => hk.2) (.slice none 0 0)) (fun _ hk => trivial)⟩, ⟨by first | exact Kd.R_nil _ _ _ _ _ | exact Kd.N_nil _ _ _ _ _ | exact Kd.V_nil _ _ _ _ _ | exact Kd.Q_nil _ _ _ _ _ | exact Kd.S_nil _ _ _ _ _⟩, ⟨by (with_reducible repeat (first | refine blk_drewN ?_ _ | refine blk_drew ?_ | refine blk_alloc ?_ _)); refine blk_far ?_ NB282_293.out _; (with_reducible repeat (first | refine blk_drewN ?_ _ | refine blk_drew ?_ | refine blk_alloc ?_ _)); refine blk_far ?_ NB282_293.out _; (with_reducible repeat (first | refine blk_drewN ?_ _ | refine blk_drew ?_ | refine blk_alloc ?_ _)); exact BK282.out⟩, ⟨by (with_reducible repeat (first | refine blk_drewN ?_ _ | refine blk_drew ?_ | refine blk_alloc ?_ _)); refine blk_far ?_ NB283_293.out _; (with_reducible repeat (first | refine blk_drewN ?_ _ | refine blk_drew ?_ | refine blk_alloc ?_ _)); refine blk_far ?_ NB283_293.out _; (with_reducible repeat (first | refine blk_drewN ?_ _ | refine blk_drew ?_ | refine blk_alloc ?_ _)); exact BK283.out⟩, ⟨by (with_reducible repeat (first | refine blk_drewN ?_ _ | refine blk_drew ?_ | refine blk_alloc ?_ _)); refine blk_put (cs := #[.int .i64 0, .slice none 0 0]) ?_ 1 _ rfl; (with_reducible repeat (first | refine blk_drewN ?_ _ | refine blk_drew ?_ | refine blk_alloc ?_ _)); refine blk_put (cs := #[.int .i64 0, .slice none 0 0]) ?_ 0 _ rfl; (with_reducible repeat (first | refine blk_drewN ?_ _ | refine blk_drew ?_ | refine blk_alloc ?_ _)); exact BK293.out⟩, ⟨by repeat (first | (with_reducible first | exact HB.out | apply below_alloc | apply pw_below_drewN | apply below_drew1 | refine below_set ?_ GE282.out | refine below_set ?_ GE283.out | refine below_set ?_ GE293.out) | exact HB.out)⟩⟩
   case round =>
    clear H'
    try clear c1
    try clear c2
    try clear p2
    try clear c3
    try clear c4
    try clear c7
    try clear c8
    try clear c8b0
    try clear c8b1
    try clear c10
    try clear c10b0
    try clear c10b1
    try clear c11
    try clear c11b0
    try clear c12
    try clear c17
    try clear c18
    try clear c19
    try clear c20
    try clear c25
    try clear c30
    try clear c33
    try clear c34
    try clear c38
    try clear c39
    try clear c44
    try clear c45
    try clear hcz13_0
    try clear hcz13_1
    try clear hcz13_2
    try clear hcz15_0
    try clear hcz15_1
    try clear hcz15_2
    try clear hcz19_0
    try clear hcz19_1
    try clear hcz19_2
    try clear hcz21_0
    try clear hcz21_1
    try clear hcz21_2
    try clear hcz23_0
    try clear hcz23_1
    try clear hcz23_2
    try clear hcz26_0
    try clear hcz26_1
    try clear hcz26_2
    try clear hcz28_0
    try clear hcz28_1
    try clear hcz28_2
    try clear hcz31_0
    try clear hcz31_1
    try clear hcz31_2
    try clear hcz35_0
    try clear hcz35_1
    try clear hcz40_0
    try clear hcz40_1
    try clear hcz40_2
    try clear hcz46_0
    try clear hcz46_1
    try clear hfz13_0
    try clear hfz13_1
    try clear hfz13_2
    try clear hfz15_0
    try clear hfz15_1
    try clear hfz15_2
    try clear hfz19_0
    try clear hfz19_1
    try clear hfz19_2
    try clear hfz21_0
    try clear hfz21_1
    try clear hfz21_2
    try clear hfz23_0
    try clear hfz23_1
    try clear hfz23_2
    try clear hfz26_0
    try clear hfz26_1
    try clear hfz26_2
    try clear hfz28_0
    try clear hfz28_1
    try clear hfz28_2
    try clear hfz31_0
    try clear hfz31_1
    try clear hfz31_2
    try clear hfz35_0
    try clear hfz35_1
    try clear hfz40_0
    try clear hfz40_1
    try clear hfz40_2
    try clear hfz46_0
    try clear hfz46_1
    try clear p2
    obtain ⟨x49_2, x294001_2, u294001, rfl, HA, HK2, HO_47, HO_294001, BK282, BK283, BK293, HB⟩ := hrel
    cases gk with
    | zero => exact absurd HA.out (by simp [impl_RepairPlan.l0])
    | succ k2 =>
     have H := HA.out
     clear HA
     simp only [impl_RepairPlan.l0] at H
     by_cases c48 : x49_2 < (t288.length : Int)
     rotate_left
     ·
      rw [if_neg c48] at H
      have c48b0 : decide (x49_2 < (t288.length : Int)) = false := decide_eq_false c48
      clear c48
      simp only [Option.some.injEq, Prod.mk.injEq] at H
      obtain ⟨rfl, rfl⟩ := H
      have hnb58 := NB293_282.out
      have hnc58 := NB282_293.out
      have hnb59 := NB293_283.out
      have hnc59 := NB283_293.out
      have hcz60_0 : wr.cell? ⟨gb293, 0, none⟩ = some (.int .i64 0) := (blk_cell BK293.out 0).trans rfl
      have hcz60_1 : wr.cell? ⟨gb293, 1, none⟩ = some (u294001) := (blk_cell BK293.out 1).trans rfl
      have hfz60_0 := blk_frozen BK293.out 0
      have hfz60_1 := blk_frozen BK293.out 1
      have hnb61 := NB283_282.out
      have hnc61 := NB282_283.out
      have hcz62_0 : wr.cell? ⟨gb283, 0, none⟩ = some (.int .i64 0) := (blk_cell BK283.out 0).trans rfl
      have hcz62_1 : wr.cell? ⟨gb283, 1, none⟩ = some (.slice none 0 0) := (blk_cell BK283.out 1).trans rfl
      have hfz62_0 := blk_frozen BK283.out 0
      have hfz62_1 := blk_frozen BK283.out 1
      obtain ⟨Ao63, co63, eo63⟩ := Kd.R_slice HO_294001.out
      subst eo63
      go_wp2
      refine bodyPost_ret (results_cell_row rfl _ _ gb283 27 #[.int .i64 0, .slice Ao63 x294001_2.length co63] (0, 0) _ rfl (by (with_reducible repeat (first | refine blk_drewN ?_ _ | refine blk_drew ?_ | refine blk_alloc ?_ _)); refine blk_put (cs := #[.int .i64 0, .slice none 0 0]) ?_ 1 _ rfl; (with_reducible repeat (first | refine blk_drewN ?_ _ | refine blk_drew ?_ | refine blk_alloc ?_ _)); refine blk_put (cs := #[.int .i64 0, .slice none 0 0]) ?_ 0 _ rfl; (with_reducible repeat (first | refine blk_drewN ?_ _ | refine blk_drew ?_ | refine blk_alloc ?_ _)); exact BK283.out) Try.underlying27 rfl (by kernel_rfl)) rfl ?_
      exact ⟨_, by first | rfl | (simp [errW_none, errW_some] <;> rfl) | (simp [*, errW_none, errW_some] <;> rfl), by (with_reducible repeat (first | apply Kd.R_alloc | apply Kd.R_drewN | apply Kd.R_drew)); exact Kd.R_mono (Kd.R_far (p := ⟨gb283, 1, none⟩) (Kd.R_far (p := ⟨gb283, 0, none⟩) (Kd.R_types HO_294001.out BK283.out (by decide)) (fun _ hk => hk.2) (.int .i64 0)) (fun _ hk => hk.2) (.slice Ao63 x294001_2.length co63)) (fun _ hk => trivial), by repeat (first | (with_reducible first | exact HB.out | apply below_alloc | apply pw_below_drewN | apply below_drew1 | refine below_set ?_ GE282.out | refine below_set ?_ GE283.out | refine below_set ?_ GE293.out) | exact HB.out)⟩
     rw [if_pos c48] at H
     have c48b0 : decide (x49_2 < (t288.length : Int)) = true := decide_eq_true c48
     clear c48
     by_cases c49 : 0 ≤ x49_2
     rotate_left
     ·
      rw [if_neg c49] at H
      exact absurd H (by simp)
     rw [if_pos c49] at H
     have c49b0 : decide (0 ≤ x49_2) = true := decide_eq_true c49
     clear c49
     by_cases c50 : x49_2 < (t288.length : Int)
     rotate_left
     ·
      exact absurd (of_decide_eq_true c48b0) c50
     rw [if_pos c50] at H
     have c50b0 : decide (x49_2 < (t288.length : Int)) = true := decide_eq_true c50
     clear c50
     by_cases c51 : x294001_2.length < 17592186044416
     rotate_left
     ·
      rw [if_neg c51] at H
      exact absurd H (by simp)
     rw [if_pos c51] at H
     have LMc51 := Aside0.mk c51
     clear c51
     obtain ⟨y295, hy295⟩ : ∃ y_ : List Int, y_ = (x294001_2 ++ [rd t288 x49_2]) := ⟨_, rfl⟩
     replace H : (impl_RepairPlan.l0 k2 t288 (t288.length : Int) (wrap64 (x49_2 + 1)) 0 y295) = some (r1, r2) := by first | (rw [hy295]; with_reducible exact H) | (have H2_ := (Option.bind_some _ _).symm.trans H; rw [hy295]; with_reducible exact H2_) | (have H2_ := (Option.bind_some _ _).symm.trans H; with_reducible exact H2_) | with_reducible exact H | (rw [hy295]; exact H) | exact H
     have Ny295 := Aside0.mk hy295
     clear hy295
     have H' := Aside0.mk H
     clear H
     have p294 : 0 ≤ (x49_2 : Int) := of_decide_eq_true (by first | (with_reducible assumption) | assumption)
     have q294 : x49_2 < (t288.length : Int) := of_decide_eq_true (by first | (with_reducible assumption) | assumption)
     obtain ⟨ad294, e294, hx294_0⟩ := Kd.at_int (Kd.R_reads' HO_47.out).2.2 x49_2 p294 q294
     cases e294
     replace p294 := eq_true p294
     replace q294 := eq_true q294
     have hnb52 := NB293_282.out
     have hnc52 := NB282_293.out
     have hnb53 := NB293_283.out
     have hnc53 := NB283_293.out
     have hcz54_0 : wr.cell? ⟨gb293, 0, none⟩ = some (.int .i64 0) := (blk_cell BK293.out 0).trans rfl
     have hcz54_1 : wr.cell? ⟨gb293, 1, none⟩ = some (u294001) := (blk_cell BK293.out 1).trans rfl
     have hfz54_0 := blk_frozen BK293.out 0
     have hfz54_1 := blk_frozen BK293.out 1
     go_wp2_with (first | ((with_reducible refine gate_builtin (b := .append) (xs := #[.tmp 54, .tmp 56]) rfl ?_); (try (refine gate_guard (by rfl) ?_; dsimp only)); at_builtin; refine Kd.R_append (Kd.int .i64) (w0 := w) w.heap.size rfl (.tmp 54) (.tmp 56) 25 2 (.int .i64 0) 8 rfl Try.underlying25 info2 rfl (by decide) (by omega) u294001 x294001_2 (rd t288 x49_2) [.int .i64 (rd t288 x49_2)] (fun _ => True) (fun _ => False) rfl rfl ?aP (fun _ hk => hk.elim) ?aF ?aO ?aB ?aS ?aL ?_; (case aP => exact rfl); (case aB => exact (by repeat (first | (with_reducible first | exact HB.out | apply below_alloc | apply pw_below_drewN | apply below_drew1 | refine below_set ?_ GE282.out | refine below_set ?_ GE283.out | refine below_set ?_ GE293.out) | exact HB.out))); (case aF => exact (fun _ _ => trivial)); (case aO => exact (by first | exact Grow.rg HO_294001.out | exact HO_294001.out)); (case aS => exact (below_size (by repeat (first | (with_reducible first | exact HB.out | apply below_alloc | apply pw_below_drewN | apply below_drew1 | refine below_set ?_ GE282.out | refine below_set ?_ GE283.out | refine below_set ?_ GE293.out) | exact HB.out)))); (case aL => have := LMc51.out; omega); intro v296 w55 ho hb hg hat; rw [← Ny295.out] at ho; have n0_ := Aside0.mk (Kd.R_over' (by first | exact Grow.rg HO_47.out | exact HO_47.out) (Kd.R_typed (by first | exact Grow.rg HO_294001.out | exact HO_294001.out)) (by decide) hg); have n1_ := Aside0.mk (blk_grown (g := gb282) (o := .cells #[.int .i64 a0_0, .int .i64 a0_1, .int .i64 a0_2] 29 (0, 0)) (by first | exact Grow.bk BK282.out | exact BK282.out) hg (Kd.R_ne HO_294001.out BK282.out (by decide))); have n2_ := Aside0.mk (blk_grown (g := gb283) (o := .cells #[.int .i64 0, .slice none 0 0] 27 (0, 0)) (by first | exact Grow.bk BK283.out | exact BK283.out) hg (Kd.R_ne HO_294001.out BK283.out (by decide))); have n3_ := Aside0.mk (blk_grown (g := gb293) (o := .cells #[.int .i64 0, u294001] 27 (0, 0)) (by first | exact Grow.bk BK293.out | exact BK293.out) hg (Kd.R_ne HO_294001.out BK293.out (by decide))); have n4_ := Aside0.mk (hb); have n5_ := Aside0.mk (ho); clear HO_47; clear BK282; clear BK283; clear BK293; clear HB; clear HO_294001; have HO_47 := n0_; have BK282 := n1_; have BK283 := n2_; have BK293 := n3_; have HB := n4_; have HO297 := n5_; clear n0_ n1_ n2_ n3_ n4_ n5_; clear ho hb hg hat; obtain ⟨Ao56, co56, eo56⟩ := Kd.R_slice HO297.out; subst eo56; have hcz57_0 : w55.cell? ⟨gb293, 0, none⟩ = some (.int .i64 0) := (blk_cell BK293.out 0).trans rfl; have hcz57_1 : w55.cell? ⟨gb293, 1, none⟩ = some (u294001) := (blk_cell BK293.out 1).trans rfl; have hfz57_0 := blk_frozen BK293.out 0; have hfz57_1 := blk_frozen BK293.out 1))
     go_roundg k2
     case measure => have := HJ3.out; have := HK2.out; omega
     case rel => exact ⟨(wrap64 (x49_2 + 1)), (y295), (.slice Ao56 y295.length co56), (by first | rfl | (simp; done) | (simp [*]; done)), H', ⟨by have := HJ3.out; have := HK2.out; omega⟩, ⟨by (with_reducible repeat (first | apply Kd.R_alloc | apply Kd.R_drewN | apply Kd.R_drew)); exact Kd.R_mono (Kd.R_far (p := ⟨gb293, 1, none⟩) (Kd.R_types HO_47.out BK293.out (by decide)) (fun _ hk => hk.2) (.slice Ao56 y295.length co56)) (fun _ hk => trivial)⟩, ⟨by (with_reducible repeat (first | apply Kd.R_alloc | apply Kd.R_drewN | apply Kd.R_drew)); exact Kd.R_mono (Kd.R_far (p := ⟨gb293, 1, none⟩) (Kd.R_types HO297.out BK293.out (by decide)) (fun _ hk => hk.2) (.slice Ao56 y295.length co56)) (fun _ hk => trivial)⟩, ⟨by (with_reducible repeat (first | refine blk_drewN ?_ _ | refine blk_drew ?_ | refine blk_alloc ?_ _)); refine blk_far ?_ NB282_293.out _; (with_reducible repeat (first | refine blk_drewN ?_ _ | refine blk_drew ?_ | refine blk_alloc ?_ _)); exact BK282.out⟩, ⟨by (with_reducible repeat (first | refine blk_drewN ?_ _ | refine blk_drew ?_ | refine blk_alloc ?_ _)); refine blk_far ?_ NB283_293.out _; (with_reducible repeat (first | refine blk_drewN ?_ _ | refine blk_drew ?_ | refine blk_alloc ?_ _)); exact BK283.out⟩, ⟨by (with_reducible repeat (first | refine blk_drewN ?_ _ | refine blk_drew ?_ | refine blk_alloc ?_ _)); refine blk_put (cs := #[.int .i64 0, u294001]) ?_ 1 _ rfl; (with_reducible repeat (first | refine blk_drewN ?_ _ | refine blk_drew ?_ | refine blk_alloc ?_ _)); exact BK293.out⟩, ⟨by repeat (first | (with_reducible first | exact HB.out | apply below_alloc | apply pw_below_drewN | apply below_drew1 | refine below_set ?_ GE282.out | refine below_set ?_ GE283.out | refine below_set ?_ GE293.out) | exact HB.out)⟩⟩

/-! ### laws_eqInt64S: function 21 -/
def laws_eqInt64S.l0 : Nat → List Int → List Int → Int → Option (Bool)
  | 0, _, _, _ => none
  | k + 1, x0, x1, x5 => if x5 < (x0.length : Int) then (if 0 ≤ x5 then (if x5 < (x1.length : Int) then (if (rd x0 x5) = (rd x1 x5) then (laws_eqInt64S.l0 k x0 x1 (wrap64 (x5 + 1))) else (some false)) else (none)) else (none)) else (some true)
def laws_eqInt64S.f (k : Nat) (l0 : List Int) (l1 : List Int) : Option (Bool) := if (l0.length : Int) = (l1.length : Int) then (laws_eqInt64S.l0 k l0 l1 0) else (some false)
theorem laws_eqInt64S.mono_l : ∀ k, (∀ y0 y1 y2, LeO (laws_eqInt64S.l0 k y0 y1 y2) (laws_eqInt64S.l0 (k + 1) y0 y1 y2))
  | 0 => fun _ _ _ r h => by simp [laws_eqInt64S.l0] at h
  | k + 1 => by
    have ih0 := laws_eqInt64S.mono_l k
    · intro y0 y1 y2
      unfold laws_eqInt64S.l0
      repeat' first
      | (with_reducible exact ih0 _ _ _)
      | (with_reducible exact LeO.refl _)
      | (with_reducible exact LeO.none _)
      | (with_reducible refine LeO.ite ?_ ?_)
      | (with_reducible refine LeO.bind ?_ (fun _ => ?_))
      | exact ih0 _ _ _
      | exact LeO.none _
      | refine LeO.ite ?_ ?_
      | refine LeO.bind ?_ (fun _ => ?_)
theorem laws_eqInt64S.mono : ∀ a0 a1 k, LeO (laws_eqInt64S.f k a0 a1) (laws_eqInt64S.f (k + 1) a0 a1) := by
  intro a0 a1 k
  have ih0 := laws_eqInt64S.mono_l k
  unfold laws_eqInt64S.f
  repeat' first
      | (with_reducible exact ih0 _ _ _)
      | (with_reducible exact LeO.refl _)
      | (with_reducible exact LeO.none _)
      | (with_reducible refine LeO.ite ?_ ?_)
      | (with_reducible refine LeO.bind ?_ (fun _ => ?_))
      | exact ih0 _ _ _
      | exact LeO.none _
      | refine LeO.ite ?_ ?_
      | refine LeO.bind ?_ (fun _ => ?_)
set_option maxHeartbeats 8000000 in
set_option maxRecDepth 100000 in
theorem laws_eqInt64S.calls (k : Nat) (A0 : Option Addr) (c0 : Nat) (l0 : List Int) (A1 : Option Addr) (c1 : Nat) (l1 : List Int) (r : Bool) (w : World) (hr0 : Kd.C (Kd.int .i64) w A0 l0.length l0) (hc0 : l0.length ≤ c0) (hr1 : Kd.C (Kd.int .i64) w A1 l1.length l1) (hc1 : l1.length ≤ c1) (h : laws_eqInt64S.f k l0 l1 = some r) :
  Calls Try.prog 21 #[.slice A0 l0.length c0, .slice A1 l1.length c1] w fun e w' => e = .returned (.bool r) ∧ Drawn0 w w' := by
 have HR0 := Aside0.mk hr0
 have HC0 := Aside0.mk hc0
 clear hr0 hc0
 have HR1 := Aside0.mk hr1
 have HC1 := Aside0.mk hc1
 clear hr1 hc1
 have H : (if (l0.length : Int) = (l1.length : Int) then (laws_eqInt64S.l0 k l0 l1 0) else (some false)) = some r := h
 clear h
 by_cases c3 : (l0.length : Int) = (l1.length : Int)
 rotate_left
 ·
  rw [if_neg c3] at H
  have c3b0 : ((l0.length : Int) == (l1.length : Int)) = false := beq_eq_false_iff_ne.mpr c3
  have c3b1 : ((l0.length : Int) != (l1.length : Int)) = true := bne_iff_ne.mpr c3
  have c3b2 : (l0.length == l1.length) = false := by first | simpa using c3 | (simp at c3 ⊢; omega)
  obtain rfl := Option.some.inj H
  go_enter Try.func21, Try.ntmps21
  go_wp2
  repeat (go_quiet (fail); try go_wp2)
  go_ret
  exact ⟨by first | rfl | (simp; done) | (simp [*]; done), by repeat (first | exact Drawn0.refl _ | apply Drawn0.step)⟩
 rw [if_pos c3] at H
 have c3b0 : ((l0.length : Int) == (l1.length : Int)) = true := beq_iff_eq.mpr c3
 have c3b1 : ((l0.length : Int) != (l1.length : Int)) = false := bne_eq_false_iff_eq.mpr c3
 have c3b2 : (l0.length == l1.length) = true := by first | simpa using c3 | (simp at c3 ⊢; omega)
 clear c3
 have H' := Aside0.mk H
 clear H
 go_enter Try.func21, Try.ntmps21
 go_wp2
 repeat (go_quiet (fail); try go_wp2)
 go_loopg [5] k (fun kq v5 w' => ∃ (x5_1 : Int), v5 = .int .i64 x5_1 ∧ Aside0 (laws_eqInt64S.l0 kq l0 l1 x5_1 = some r) ∧ Aside0 (kq ≤ k) ∧ Drawn0 w w')
 case atStart => exact ⟨(0), (by first | rfl | (simp; done) | (simp [*]; done)), H', ⟨Nat.le_refl _⟩, by repeat (first | exact Drawn0.refl _ | apply Drawn0.step)⟩
 case round =>
  clear H'
  try clear c1
  try clear c2
  try clear p2
  try clear c3
  try clear c3b0
  try clear c3b1
  try clear c3b2
  obtain ⟨x5_1, rfl, HA, HK1, ⟨m1, rfl⟩⟩ := hrel
  cases gk with
  | zero => exact absurd HA.out (by simp [laws_eqInt64S.l0])
  | succ k1 =>
   have H := HA.out
   clear HA
   simp only [laws_eqInt64S.l0] at H
   by_cases c4 : x5_1 < (l0.length : Int)
   rotate_left
   ·
    rw [if_neg c4] at H
    have c4b0 : decide (x5_1 < (l0.length : Int)) = false := decide_eq_false c4
    clear c4
    obtain rfl := Option.some.inj H
    go_wp2
    repeat (go_quiet (fail); try go_wp2)
    go_ret
    exact ⟨by first | rfl | (simp; done) | (simp [*]; done), by repeat (first | exact Drawn0.refl _ | apply Drawn0.step)⟩
   rw [if_pos c4] at H
   have c4b0 : decide (x5_1 < (l0.length : Int)) = true := decide_eq_true c4
   clear c4
   by_cases c5 : 0 ≤ x5_1
   rotate_left
   ·
    rw [if_neg c5] at H
    exact absurd H (by simp)
   rw [if_pos c5] at H
   have c5b0 : decide (0 ≤ x5_1) = true := decide_eq_true c5
   clear c5
   by_cases c6 : x5_1 < (l1.length : Int)
   rotate_left
   ·
    rw [if_neg c6] at H
    exact absurd H (by simp)
   rw [if_pos c6] at H
   have c6b0 : decide (x5_1 < (l1.length : Int)) = true := decide_eq_true c6
   clear c6
   by_cases c7 : (rd l0 x5_1) = (rd l1 x5_1)
   rotate_left
   ·
    rw [if_neg c7] at H
    have c7b0 : ((rd l0 x5_1) == (rd l1 x5_1)) = false := beq_eq_false_iff_ne.mpr c7
    have c7b1 : ((rd l0 x5_1) != (rd l1 x5_1)) = true := bne_iff_ne.mpr c7
    obtain rfl := Option.some.inj H
    have p298 : 0 ≤ (x5_1 : Int) := of_decide_eq_true (by first | (with_reducible assumption) | assumption)
    have q298 : x5_1 < (l0.length : Int) := of_decide_eq_true (by first | (with_reducible assumption) | assumption)
    obtain ⟨ad298, e298, hx298_0⟩ := Kd.at_int HR0.out x5_1 p298 q298
    cases e298
    replace p298 := eq_true p298
    replace q298 := eq_true q298
    have p299 : 0 ≤ (x5_1 : Int) := of_decide_eq_true (by first | (with_reducible assumption) | assumption)
    have q299 : x5_1 < (l1.length : Int) := of_decide_eq_true (by first | (with_reducible assumption) | assumption)
    obtain ⟨ad299, e299, hx299_0⟩ := Kd.at_int HR1.out x5_1 p299 q299
    cases e299
    replace p299 := eq_true p299
    replace q299 := eq_true q299
    go_wp2
    repeat (go_quiet (fail); try go_wp2)
    go_ret
    exact ⟨by first | rfl | (simp; done) | (simp [*]; done), by repeat (first | exact Drawn0.refl _ | apply Drawn0.step)⟩
   rw [if_pos c7] at H
   have c7b0 : ((rd l0 x5_1) == (rd l1 x5_1)) = true := beq_iff_eq.mpr c7
   have c7b1 : ((rd l0 x5_1) != (rd l1 x5_1)) = false := bne_eq_false_iff_eq.mpr c7
   clear c7
   have H' := Aside0.mk H
   clear H
   have p298 : 0 ≤ (x5_1 : Int) := of_decide_eq_true (by first | (with_reducible assumption) | assumption)
   have q298 : x5_1 < (l0.length : Int) := of_decide_eq_true (by first | (with_reducible assumption) | assumption)
   obtain ⟨ad298, e298, hx298_0⟩ := Kd.at_int HR0.out x5_1 p298 q298
   cases e298
   replace p298 := eq_true p298
   replace q298 := eq_true q298
   have p299 : 0 ≤ (x5_1 : Int) := of_decide_eq_true (by first | (with_reducible assumption) | assumption)
   have q299 : x5_1 < (l1.length : Int) := of_decide_eq_true (by first | (with_reducible assumption) | assumption)
   obtain ⟨ad299, e299, hx299_0⟩ := Kd.at_int HR1.out x5_1 p299 q299
   cases e299
   replace p299 := eq_true p299
   replace q299 := eq_true q299
   go_wp2
   repeat (go_quiet (fail); try go_wp2)
   go_roundg k1
   case measure => have := HK1.out; omega
   case rel => exact ⟨(wrap64 (x5_1 + 1)), (by first | rfl | (simp; done) | (simp [*]; done)), H', ⟨by have := HK1.out; omega⟩, by repeat (first | exact Drawn0.refl _ | apply Drawn0.step)⟩

end Go.Proofs.Yteflpfkfmohenaa.QFnExactRepairPlan
